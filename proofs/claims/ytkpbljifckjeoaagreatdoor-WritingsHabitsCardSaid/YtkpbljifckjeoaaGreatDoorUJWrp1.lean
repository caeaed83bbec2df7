/-
  Plain: writings under more habits; no two are equal; each is read as the beats; the first and the best one; minimal habits.
-/
import Derived.Test.YtkpbljifckjeoaaGreatDoorUJWri8
set_option linter.unusedSimpArgs false
set_option linter.unusedVariables false
namespace Go.Rse
open Go Go.Proofs
def hbL (a b : Hb) : Bool := (!a.Color || b.Color) && (!a.Dots || b.Dots) && (!a.Alter || b.Alter)
theorem zje {a b : Hb} : hbL a b = true ↔ (a.Color = true -> b.Color = true) /\ (a.Dots = true -> b.Dots = true) /\ (a.Alter = true -> b.Alter = true) := by
 obtain ⟨a1, a2, a3⟩ := a;obtain ⟨b1, b2, b3⟩ := b;cases a1 <;> cases a2 <;> cases a3 <;> cases b1 <;> cases b2 <;> cases b3 <;> decide
theorem zdt {a b : Hb} (h : hbL a b = true) : (a.Color = true -> b.Color = true) /\ (a.Dots = true -> b.Dots = true) /\ (a.Alter = true -> b.Alter = true) := zje.1 h
theorem zrc (a : Hb) : hbL a a = true := zje.2 ⟨id, id, id⟩
theorem zn6 {s : Sp} {a b : Hb} (h : hbL a b = true) (hs : usQ s a = true) : usQ s b = true := by
 obtain ⟨h1, h2, h3⟩ := zdt h;unfold usQ at *
 split
 ·rename_i c; rw [if_pos c] at hs; exact h1 hs
 ·rename_i c; rw [if_neg c] at hs;split
  ·rename_i c; rw [if_pos c] at hs;rw [Bool.and_eq_true] at hs ⊢; exact ⟨h1 hs.1, h2 hs.2⟩
  ·rename_i c; rw [if_neg c] at hs;split
   ·rename_i c; rw [if_pos c] at hs; exact h2 hs
   ·rename_i c; rw [if_neg c] at hs;split
    ·rename_i c; rw [if_pos c] at hs; exact h3 hs
    ·rfl
theorem zjY {x : Bt} {s : Sp} {a b : Hb} (h : hbL a b = true) (hs : slQ x a s = true) : slQ x b s = true := by
 unfold slQ at *; rw [Bool.and_eq_true] at *; exact ⟨hs.1, zn6 h hs.2⟩
theorem zn7 {α : Type} {p q : Bool} {l : List α} (h : p = true -> q = true) : (if p = true then l else []).Sublist (if q = true then l else []) := by
 cases p
 ·exact List.nil_sublist _
 ·rw [h rfl]; exact List.Sublist.refl _
theorem zjZ {α : Type} {L : List α} {p q : α -> Bool} (h : ∀ x, p x = true -> q x = true) (hp : L.any p = true) : L.any q = true := by
 rw [List.any_eq_true] at *
 obtain ⟨x, h1, h2⟩ := hp;exact ⟨x, h1, h x h2⟩
theorem zlL {x : Bt} {a b : Hb} (h : hbL a b = true) (L : List Sp) (v : Int) (c : Bool) : (rkC x a L v c).Sublist (rkC x b L v c) := by
 unfold rkC;refine List.Sublist.append (zn7 (zjZ fun s hs => ?_)) (zn7 fun hh => ?_)
 ·simp only [Bool.and_eq_true] at *; exact ⟨⟨⟨zjY h hs.1.1.1, hs.1.1.2⟩, hs.1.2⟩, hs.2⟩
 ·rw [Bool.and_eq_true] at *
  refine ⟨zjZ (fun s hs => ?_) hh.1, (zdt h).2.1 hh.2⟩;simp only [Bool.and_eq_true] at *; exact ⟨⟨zjY h hs.1.1, hs.1.2⟩, hs.2⟩
theorem zlM {x : Bt} {a b : Hb} (h : hbL a b = true) (L : List Sp) : ∀ n, (rkL x a L n).Sublist (rkL x b L n)
 | 0 => List.Sublist.refl _
 | n + 1 => (zlM h L n).append ((zlL h L _ _).append (zlL h L _ _))
theorem zlN {x : Bt} {a b : Hb} (h : hbL a b = true) (m : Mn) : (frV m x a).Sublist (frV m x b) := (zlM h _ 8).map _
theorem zpK {x : Bt} {a b : Hb} (h : hbL a b = true) (m : Mn) : (fmV m x a).Sublist (fmV m x b) := by
 unfold fmV; split
 ·exact zlN h m
 ·exact List.Sublist.refl _
theorem zj0 {α β : Type} {f g : α -> List β} (hf : ∀ x, (f x).Sublist (g x)) {l k : List α} (h : l.Sublist k) : (l.flatMap f).Sublist (k.flatMap g) := by
 induction h with
 | slnil => exact List.Sublist.refl _
 | cons a _ ih => rw [List.flatMap_cons]; exact ih.trans (List.sublist_append_right _ _)
 | cons_cons a _ ih => rw [List.flatMap_cons, List.flatMap_cons]; exact (hf a).append ih
theorem zlO {a b : Hb} (h : hbL a b = true) (m : Mn) : ∀ (l : List Bt) (r : List Sg), (wuL (fmL m l a) r).Sublist (wuL (fmL m l b) r)
 | [], r => List.Sublist.refl _
 | x :: l, r => zj0 (fun y => zlO h m l (r ++ y)) (zpK h m)
theorem zlP {a b : Hb} (h : hbL a b = true) (m : Mn) (l : List Bt) : (wyL m l a).Sublist (wyL m l b) := (zlO h m l []).filter _
theorem zlQ {a b : Hb} (h : hbL a b = true) (m : Mn) : ∀ (l : List Bt), cnP m a l <= cnP m b l
 | [] => Nat.le_refl _
 | x :: l => Nat.mul_le_mul (zlN h m).length_le (zlQ h m l)
theorem zuE (a : Hb) : hbL a (hbM 7) = true := by
 obtain ⟨a1, a2, a3⟩ := a;cases a1 <;> cases a2 <;> cases a3 <;> decide
theorem zst {m : Mn} {l : List Bt} (hw : wcE m l = 0) (hl : l.length <= 12) (h : ltQ m l = true) (a : Hb) : wcnE m l a = 0 := by
 unfold ltQ at h;simp only [Bool.and_eq_true, Bool.not_eq_true', decide_eq_true_eq, decide_eq_false_iff_not] at h;have h1 := zlQ (zuE a) m l
 have h2 : cnP m (hbM 7) l <= 4096 := by
  apply Classical.byContradiction; intro hn;refine h.2.1 ?_;unfold wcnE; rw [if_pos hw, if_neg (by omega), if_pos (by omega)]
 unfold wcnE; rw [if_pos hw, if_neg (by omega), if_neg (by omega)]
theorem zrd (a b : Nat) (ha : a < 8) (hb : b < 8) : hbL (hbN (a : Int)) (hbN (b : Int)) = decide (andI (a : Int) (b : Int) = (a : Int)) := by
 have key : ∀ a b : Fin 8, hbL (hbN ((a : Nat) : Int)) (hbN ((b : Nat) : Int)) = decide (andI ((a : Nat) : Int) ((b : Nat) : Int) = ((a : Nat) : Int)) := by decide +kernel
 exact key ⟨a, ha⟩ ⟨b, hb⟩
theorem zuF (a : Nat) (ha : a < 8) : hbN (a : Int) = hbM (a : Int) := by
 have key : ∀ a : Fin 8, hbN ((a : Nat) : Int) = hbM ((a : Nat) : Int) := by decide +kernel
 exact key ⟨a, ha⟩
theorem zuG {a b c : Hb} (h1 : hbL a b = true) (h2 : hbL b c = true) : hbL a c = true :=
 zje.2 ⟨fun h => (zdt h2).1 ((zdt h1).1 h), fun h => (zdt h2).2.1 ((zdt h1).2.1 h), fun h => (zdt h2).2.2 ((zdt h1).2.2 h)⟩
theorem zjf (m : Mn) (l : List Bt) (v : Int) : wq m l v = decide (¬ (wyL m l (hbN v)).length = 0) := by unfold wq wyX; rw [List.length_map]
theorem zpL {m : Mn} {l : List Bt} {a b : Nat} (h : hbL (hbN (a : Int)) (hbN (b : Int)) = true) (hq : wq m l a = true) : wq m l b = true := by
 rw [zjf, decide_eq_true_eq] at *
 have := (zlP h m l).length_le; omega
theorem zn8 {m : Mn} {l : List Bt} {v : Nat} (hv : v < 8) : lsK m l (v : Int) v = true ↔ wq m l v = true /\ ∀ j : Nat, j < v -> hbL (hbN (j : Int)) (hbN (v : Int)) = true -> ¬ wq m l j = true := by
 unfold lsK;rw [Bool.and_eq_true, List.all_eq_true];refine and_congr Iff.rfl ⟨fun h j hj h1 h2 => ?_, fun h j hj => ?_⟩
 ·have := h j (List.mem_range.2 hj);rw [zrd j v (by omega) hv] at h1;rw [h1, h2] at this; cases this
 ·have hj := List.mem_range.1 hj;have := h j hj;rw [zrd j v (by omega) hv] at this;cases h1 : decide (andI (j : Int) (v : Int) = (j : Int))
  ·rfl
  ·cases h2 : wq m l j
   ·rfl
   ·exact absurd h2 (this h1)
theorem zre {m : Mn} {l : List Bt} : ∀ n (v : Nat), v < n -> v < 8 -> wq m l v = true -> ∃ j : Nat, j < 8 /\ hbL (hbN (j : Int)) (hbN (v : Int)) = true /\ lsK m l (j : Int) j = true
 | 0, v, h, _, _ => absurd h (by omega)
 | n + 1, v, h, h8, hq => by
  by_cases hl : lsK m l (v : Int) v = true
  ·exact ⟨v, h8, zrc _, hl⟩
  ·rw [zn8 h8] at hl
   have : ∃ j : Nat, j < v /\ hbL (hbN (j : Int)) (hbN (v : Int)) = true /\ wq m l j = true := by
    apply Classical.byContradiction; intro hn;exact hl ⟨hq, fun j hj h1 h2 => hn ⟨j, hj, h1, h2⟩⟩
   obtain ⟨j, h1, h2, h3⟩ := this;obtain ⟨k, g1, g2, g3⟩ := zre n j (by omega) (by omega) h3;exact ⟨k, g1, zuG g2 h2, g3⟩
theorem zn9 {m : Mn} {l : List Bt} {x : Hb} : x ∈ mnF8 m l 8 ↔ ∃ v : Nat, v < 8 /\ lsK m l (v : Int) v = true /\ x = hbN (v : Int) := by
 unfold mnF8;rw [List.mem_map];constructor
 ·rintro ⟨v, hv, rfl⟩
  obtain ⟨h1, h2⟩ := List.mem_filter.1 hv;exact ⟨v, List.mem_range.1 h1, h2, rfl⟩
 ·rintro ⟨v, h1, h2, rfl⟩
  exact ⟨v, List.mem_filter.2 ⟨List.mem_range.2 h1, h2⟩, rfl⟩
theorem zoa {m : Mn} {l : List Bt} {h : Nat} (h8 : h < 8) : (mnF8 m l 8).any (fun x => hbL x (hbM (h : Int))) = decide (0 < (wyL m l (hbM (h : Int))).length) := by
 rw [← zuF h h8];cases hq : wq m l h
 ·rw [zjf, decide_eq_false_iff_not] at hq;rw [decide_eq_false (by omega), List.any_eq_false];intro x hx hl;obtain ⟨v, h1, h2, rfl⟩ := zn9.1 hx;have := zpL hl ((zn8 h1).1 h2).1;rw [zjf, decide_eq_true_eq] at this; exact hq this
 ·obtain ⟨j, h1, h2, h3⟩ := zre 8 h (by omega) h8 hq;rw [zjf, decide_eq_true_eq] at hq;rw [decide_eq_true (by omega), List.any_eq_true];exact ⟨_, zn9.2 ⟨j, h1, h3, rfl⟩, h2⟩
theorem zuH {m : Mn} {l : List Bt} {h : Nat} (h8 : h < 8) (hx : hbM (h : Int) ∈ mnF8 m l 8) : 0 < (wyL m l (hbM (h : Int))).length := by
 have := zoa (m := m) (l := l) h8;have h2 : (mnF8 m l 8).any (fun x => hbL x (hbM (h : Int))) = true := List.any_eq_true.2 ⟨_, hx, zrc _⟩;rw [h2] at this; exact of_decide_eq_true this.symm
end Go.Rse
namespace Go.Rse
open Go Go.RowKit
def orI (p q : Int) : Int := IntKind.i64.wrap ((BitVec.ofInt 64 p ||| BitVec.ofInt 64 q).toNat : Int)
section
variable {P : Program} {C : Ctx} {st : St} {ty : TypeId} {x y : Operand} {xt yt : TypeId} {p q : Int}
theorem zuI (hx : ev st x = some (.int .i64 p)) (hy : ev st y = some (.int .i64 q)) : Pur P C (.binOp .or xt x y yt) ty st (.int .i64 (orI p q)) := fun g a w dst pos af gd hr =>
 ⟨_, zhE hr hx hy dst pos af gd (.int .i64 (orI p q)) (by simp [binOp, Op.intBits]; rfl), .int _ _⟩
end
end Go.Rse
namespace Go.Rse
open Go Go.Proofs
def beJ (L : List Hb) (q : Hb) (i : Nat) : Bool := (L.take i).any fun x => hbL x q
def isJ (L : List Hb) (q : Hb) (i : Nat) : Bool := (L.take i).any fun x => decide (x = q)
theorem zuJ {L : List Hb} {q x : Hb} {i : Nat} (h : L[i]? = some x) : (beJ L q i || hbL x q) = beJ L q (i + 1) := by
 unfold beJ; rw [List.take_add_one, h, List.any_append]; simp
theorem zuK {L : List Hb} {q : Int} {x : Hb} {i : Nat} (h : L[i]? = some x) : (beJ L (hbM q) i || ((!x.Color || decide (4 <= q)) && (!x.Dots || decide (2 <= Int.tmod q 4)) && (!x.Alter || decide (Int.tmod q 2 = 1)))) = beJ L (hbM q) (i + 1) := zuJ h
theorem zuL {L : List Hb} {q x : Hb} {i : Nat} (h : L[i]? = some x) : (isJ L q i || decide (x = q)) = isJ L q (i + 1) := by
 unfold isJ; rw [List.take_add_one, h, List.any_append]; simp
theorem zuM {m : Mn} {l : List Bt} {q : Nat} (h8 : q < 8) : beJ (mnF8 m l 8) (hbM (q : Int)) (mnF8 m l 8).length = decide (0 < (wyL m l (hbM (q : Int))).length) := by
 unfold beJ; rw [List.take_length]; exact zoa h8
theorem zuN {m : Mn} {l : List Bt} {q : Nat} (h8 : q < 8) (h : isJ (mnF8 m l 8) (hbM (q : Int)) (mnF8 m l 8).length = true) : 0 < (wyL m l (hbM (q : Int))).length := by
 unfold isJ at h; rw [List.take_length, List.any_eq_true] at h;obtain ⟨x, h1, h2⟩ := h;rw [decide_eq_true_eq] at h2; subst h2; exact zuH h8 h1
abbrev upQ (q : Nat) : Int := orI (q : Int) (1 * 2 ^ (Int.tmod (q : Int) 3).toNat)
theorem zsu (q : Nat) (h : q < 8) : (hbL (hbM (q : Int)) (hbM (upQ q)) && (decide (0 <= Int.tmod (q : Int) 3) && (decide (Int.tmod (q : Int) 3 <= 63) && decide (IntKind.i64.wrap (1 * 2 ^ (Int.tmod (q : Int) 3).toNat) = 1 * 2 ^ (Int.tmod (q : Int) 3).toNat)))) = true := by
 have key : ∀ q : Fin 8, (hbL (hbM ((q : Nat) : Int)) (hbM (upQ (q : Nat))) && (decide (0 <= Int.tmod ((q : Nat) : Int) 3) && (decide (Int.tmod ((q : Nat) : Int) 3 <= 63) && decide (IntKind.i64.wrap (1 * 2 ^ (Int.tmod ((q : Nat) : Int) 3).toNat) = 1 * 2 ^ (Int.tmod ((q : Nat) : Int) 3).toNat)))) = true := by decide +kernel
 exact key ⟨q, h⟩
theorem zsv {be is : Bool} {n : Nat} (h1 : be = decide (0 < n)) (h2 : is = true -> 0 < n) (h : (be == decide ((0 : Int) < (n : Int))) = false \/ (is = true /\ (n : Int) = 0)) : False := by
 rcases h with h | ⟨h, h3⟩
 ·rw [h1, show decide ((0 : Int) < (n : Int)) = decide (0 < n) from decide_eq_decide.2 (by omega)] at h;cases hd : decide (0 < n) <;> rw [hd] at h <;> cases h
 ·have := h2 h; omega
end Go.Rse
namespace Go.Rse
open Go Go.Proofs
abbrev T9 : List Tm := [⟨2, 1⟩, ⟨4, 1⟩, ⟨6, 1⟩, ⟨1, 1⟩, ⟨3, 1⟩, ⟨3, 2⟩, ⟨1, 2⟩, ⟨5, 1⟩, ⟨9, 1⟩]
def mzB (x : Int) : Bt := ⟨T9.getD (x % 1048576 % 9).toNat default, decide (x % 1048576 / 9 % 6 = 0)⟩
def mzV (L : List Int) : List Bt := (L.take 4).map mzB
def mzK (L : List Int) (k : Nat) : List Bt := (L.take k).map mzB
theorem zuO {L : List Int} {k : Nat} {x : Int} (h : L[k]? = some x) : mzK L k ++ [mzB x] = mzK L (k + 1) := by
 unfold mzK; rw [List.take_add_one, h]; simp
theorem zlR (L : List Int) (k : Nat) : (mzK L k).length <= k := by unfold mzK; rw [List.length_map, List.length_take]; omega
theorem zuP {L : List Int} {k : Nat} (h1 : k <= L.length) (h2 : k <= 4) (h : ¬ k < L.length \/ ¬ k < 4) : mzK L k = mzV L := by
 unfold mzK mzV;rcases h with h | h
 ·rw [List.take_of_length_le (show L.length <= k by omega), List.take_of_length_le (show L.length <= 4 by omega)]
 ·have : k = 4 := by omega
  rw [this]
theorem zrf {i : Int} (h0 : 0 <= i) (h1 : i < 9) : T9[i.toNat]? = some (T9.getD i.toNat default) := by
 rw [List.getD_eq_getElem?_getD, lgg (show i.toNat < T9.length by show i.toNat < 9; omega)]; rfl
theorem zpM (L : List Int) : (mzV L).length <= 4 := by unfold mzV; rw [List.length_map, List.length_take]; omega
theorem zuQ : T9.all (fun t => decide (btC ⟨t, true⟩ = 0) && decide (btC ⟨t, false⟩ = 0)) = true := by kernel_rfl
theorem zsw {m : Mn} (hm : ckM m = 0) {L : List Int} : wcE m (mzV L) = 0 := by
 unfold wcE; rw [if_pos hm];refine zi9.2 fun b hb => ?_
 unfold mzV at hb;obtain ⟨x, -, rfl⟩ := List.mem_map.1 hb;have hxm : 0 <= x % 1048576 := Int.emod_nonneg _ (by decide);have hti := zrf (i := x % 1048576 % 9) (by omega) (by omega);have h := List.all_eq_true.1 zuQ _ (List.mem_of_getElem? hti);rw [Bool.and_eq_true, decide_eq_true_iff, decide_eq_true_iff] at h;unfold mzB;cases decide (x % 1048576 / 9 % 6 = 0)
 ·exact h.2
 ·exact h.1
def wiQ : List (List Sg) -> List (List Sg) -> Bool
 | [], _ => true
 | _ :: _, [] => false
 | x :: a, y :: b => if x = y then wiQ a b else wiQ (x :: a) b
theorem zjg : ∀ (b a : List (List Sg)), wiQ a b = true ↔ a.Sublist b
 | b, [] => by simp [wiQ]
 | [], x :: a => by simp [wiQ]
 | y :: b, x :: a => by
  by_cases e : x = y
  ·rw [wiQ, if_pos e, zjg b a]; subst e; exact List.cons_sublist_cons.symm
  ·rw [wiQ, if_neg e, zjg b (x :: a)];refine ⟨fun h => h.cons _, fun h => ?_⟩;cases h with
   | cons _ h => exact h
   | cons_cons _ h => exact absurd rfl e
theorem zuR {a b : List (List Sg)} {i k : Nat} {x y : List Sg} (hx : a[i]? = some x) (hy : b[k]? = some y) (e : x = y) : wiQ (a.drop i) (b.drop k) = wiQ (a.drop (i + 1)) (b.drop (k + 1)) := by
 have h1 := List.getElem?_eq_some_iff.1 hx;have h2 := List.getElem?_eq_some_iff.1 hy;rw [List.drop_eq_getElem_cons h1.1, List.drop_eq_getElem_cons h2.1, h1.2, h2.2, wiQ, if_pos e]
theorem zuS {a b : List (List Sg)} {i k : Nat} {x y : List Sg} (hx : a[i]? = some x) (hy : b[k]? = some y) (e : ¬ x = y) : wiQ (a.drop i) (b.drop k) = wiQ (a.drop i) (b.drop (k + 1)) := by
 have h1 := List.getElem?_eq_some_iff.1 hx;have h2 := List.getElem?_eq_some_iff.1 hy;rw [List.drop_eq_getElem_cons h1.1, List.drop_eq_getElem_cons h2.1, h1.2, h2.2, wiQ, if_neg e]
theorem zuT {a b : List (List Sg)} {i k : Nat} {x : List Sg} (hx : a[i]? = some x) (h : b.length <= k) : wiQ (a.drop i) (b.drop k) = false := by
 have h1 := List.getElem?_eq_some_iff.1 hx;rw [List.drop_eq_getElem_cons h1.1, h1.2, List.drop_of_length_le h]; rfl
theorem zsx {a b : List (List Sg)} {i : Nat} (h : a.length <= i) : wiQ (a.drop i) b = true := by
 rw [List.drop_of_length_le h]; unfold wiQ; rfl
attribute [local irreducible] Pur yu yy Ex X Fn Imp LeV LeB FnO It yz FnW FnOW FnP FnD
attribute [local irreducible] ltQ mMk mzK mzV wiQ
set_option maxHeartbeats 4000000 in
theorem zeF (L : List Int) (n : Int) (hL : L.length <= maxLen) (hr : ∀ x ∈ L, -9223372036854775808 <= x /\ x <= 9223372036854775807) (hn : -9223372036854775808 <= n /\ n <= 9223372036854775807) : Fn Tryz.prog 26 [ye L, iv n] (.tup [mnA (mMk n), btsA (mzV L), .bool (ltQ (mMk n) (mzV L))]) := by
 have hz0 : [] = mzK L 0 := by unfold mzK; rfl
 refine Fn.go Tryz.func26 Tryz.ntmps26 (fun g w d => ?_);refine gq ?_;refine yb (zfu n hn) ?_;refine zG ?_;refine Ex.mo ?_;apply yM;refine yx ?_;iterate 2 apply yn
 refine X.imp (yR btE 76 3 8 30 rfl rfl) ?_;refine gq ?_
 refine yY (ι := Nat) (fun (k : Nat) => [(0, ye L), (4, .ptr 4 0 0 0), (6, .bool false), (7, .ptr 7 0 0 0), (8, .own 30), (9, iv (k : Int))]) (fun (k : Nat) => [(4, .box [iv 0, iv 0, iv 0, iv 0] 32), (7, .box (mnE (mMk n)) 32), (30, .row btE (mzK L k) 76 3)]) (fun (k : Nat) => k <= L.length /\ k <= 4) (fun (k : Nat) => L.length - k) 0 (fun k hk => ?_) (hJ := by
  exact ⟨by omega, by omega⟩) (h0 := by
  exact yf)
 obtain ⟨hk1, hk2⟩ := hk;apply yn;apply yg;iterate 4 refine ya ?_
 refine ExF.at 4 ?_;refine yE ?_;iterate 2 refine ExF.gi ?_
 refine ym ?_;refine gd ?_ ?_<;>intro hc1
 ·obtain ⟨x, hx⟩ : ∃ x, L[k]? = some x := ⟨_, lgg (by omega)⟩;have hx2 : L[(k : Int).toNat]? = some x := by simpa using hx
  have hxr := hr x (List.mem_of_getElem? hx);have hst := zuO hx;have hlt := zlR L k;have hxm : 0 <= x % 1048576 := Int.emod_nonneg _ (by decide);have hti0 : 0 <= x % 1048576 % 9 := by omega
  have hT9 : T9.length = 9 := rfl;have hti := zrf (i := x % 1048576 % 9) hti0 (by omega);refine gq ?_;refine yb (zc5 x 1048576 hxr (by decide)) ?_;refine gq ?_;refine yb (zM 2 1 ⟨2, 1⟩ (by kernel_rfl)) ?_;refine yb (zM 4 1 ⟨4, 1⟩ (by kernel_rfl)) ?_;refine yb (zM 6 1 ⟨6, 1⟩ (by kernel_rfl)) ?_;refine yb (zM 1 1 ⟨1, 1⟩ (by kernel_rfl)) ?_;refine yb (zM 3 1 ⟨3, 1⟩ (by kernel_rfl)) ?_;refine yb (zM 3 2 ⟨3, 2⟩ (by kernel_rfl)) ?_;refine yb (zM 1 2 ⟨1, 2⟩ (by kernel_rfl)) ?_;refine yb (zM 5 1 ⟨5, 1⟩ (by kernel_rfl)) ?_;refine yb (zM 9 1 ⟨9, 1⟩ (by kernel_rfl)) ?_;refine yL tmE T9 ?_;refine gq ?_;refine Ex.stepA (Pur.stepA (zb9 rfl rfl hti rfl rfl TyK.h)) rfl rfl ?_;refine gq ?_;refine yL btE [mzB x] ?_;refine gq ?_
  refine yC (k + 1) (hJ := by
   exact ⟨by omega, by omega⟩) (hI := yf)
 ·have hV : mzK L k = mzV L := zuP hk1 hk2 (by omega);apply X.exit;apply yn;refine X.imp (Imp.freeze (k := 30) rfl) ?_;refine X.drawQ [⟨0, 50, mnA (mMk n), []⟩, ⟨1, 51, btsA (mzK L k), []⟩, ⟨2, 52, mnA (mMk n), []⟩, ⟨3, 53, btsA (mzK L k), []⟩] [(4, [3, 2]), (5, [3, 2, 4, 0]), (6, [3, 2, 4, 0, 5, 1]), (7, [5, 3, 2, 1, 0, 6, 4])] (fun j => match j with | 0 => ⟨[(4, .ptr 4 0 0 0), (7, .ptr 7 0 0 0), (8, btsA (mzK L k))], [(4, .box [iv 0, iv 0, iv 0, iv 0] 32), (7, .box (mnE (mMk n)) 32)]⟩ | 1 => ⟨[(4, .ptr 4 0 0 0), (7, .ptr 7 0 0 0), (8, btsA (mzK L k)), (54, .bool (ltQ (mMk n) (mzK L k)))], [(4, .box [iv 0, iv 0, iv 0, iv 0] 32), (7, .box (mnE (mMk n)) 32)]⟩ | 2 => ⟨[(4, .ptr 4 0 0 0), (7, .ptr 7 0 0 0), (8, btsA (mzK L k)), (54, .bool (ltQ (mMk n) (mzK L k)))], [(4, .box (mnE (mMk n)) 32), (7, .box (mnE (mMk n)) 32)]⟩ | 3 => ⟨[(4, .ptr 4 0 0 0), (7, .ptr 7 0 0 0), (8, btsA (mzK L k)), (54, .bool (ltQ (mMk n) (mzK L k))), (5, btsA (mzK L k))], [(4, .box (mnE (mMk n)) 32), (7, .box (mnE (mMk n)) 32)]⟩ | _ => ⟨[(4, .ptr 4 0 0 0), (5, btsA (mzK L k)), (6, .bool (ltQ (mMk n) (mzK L k)))], [(4, .box (mnE (mMk n)) 32), (7, .box (mnE (mMk n)) 32)]⟩) mo (by kernel_rfl) (za6 (yd)) (fun j hj => ?_) (fun j c hc β hβ => ?_) ?_
  ·rcases j with _ | _ | _ | _ | _ | j
   ·exact zg
   ·exact zg
   ·exact zg
   ·exact zg
   ·exact zg
   ·exact absurd (show j + 5 <= 4 from hj) (by omega)
  ·rcases j with _ | _ | _ | _ | j
   ·obtain rfl : (4, [3, 2]) = c := by injection hc
    refine yh rfl (yF (st0 := ⟨[(50, .ifb (β 0) (mnA (mMk n))), (51, .ifb (β 1) (btsA (mzK L k))), (52, mnA (mMk n)), (53, btsA (mzK L k)), (4, .ptr 4 0 0 0), (7, .ptr 7 0 0 0), (8, btsA (mzK L k))], [(4, .box [iv 0, iv 0, iv 0, iv 0] 32), (7, .box (mnE (mMk n)) 32)]⟩) (yA) ?_);refine yy.imp (yp (zco rfl rfl rfl (LeL.refl _) (zee (mMk n) (mzK L k) (by have := zlR L k; omega))) rfl rfl) (yA)
   ·obtain rfl : (5, [3, 2, 4, 0]) = c := by injection hc
    refine yh rfl (yF (st0 := ⟨[(50, mnA (mMk n)), (51, .ifb (β 1) (btsA (mzK L k))), (52, mnA (mMk n)), (53, btsA (mzK L k)), (4, .ptr 4 0 0 0), (7, .ptr 7 0 0 0), (8, btsA (mzK L k)), (54, .bool (ltQ (mMk n) (mzK L k)))], [(4, .box [iv 0, iv 0, iv 0, iv 0] 32), (7, .box (mnE (mMk n)) 32)]⟩) (yA) ?_);refine yy.imp (zfY rfl rfl rfl rfl ty32 rfl (leB rfl)) (yA)
   ·obtain rfl : (6, [3, 2, 4, 0, 5, 1]) = c := by injection hc
    refine yh rfl (yF (st0 := ⟨[(50, mnA (mMk n)), (51, btsA (mzK L k)), (52, mnA (mMk n)), (53, btsA (mzK L k)), (4, .ptr 4 0 0 0), (7, .ptr 7 0 0 0), (8, btsA (mzK L k)), (54, .bool (ltQ (mMk n) (mzK L k)))], [(4, .box (mnE (mMk n)) 32), (7, .box (mnE (mMk n)) 32)]⟩) (yA) ?_);refine yy.imp (yp (Pur.stepA y9) rfl rfl) (yA)
   ·obtain rfl : (7, [5, 3, 2, 1, 0, 6, 4]) = c := by injection hc
    refine yh rfl (yF (st0 := ⟨[(50, mnA (mMk n)), (51, btsA (mzK L k)), (52, mnA (mMk n)), (53, btsA (mzK L k)), (4, .ptr 4 0 0 0), (7, .ptr 7 0 0 0), (8, btsA (mzK L k)), (54, .bool (ltQ (mMk n) (mzK L k))), (5, btsA (mzK L k))], [(4, .box (mnE (mMk n)) 32), (7, .box (mnE (mMk n)) 32)]⟩) (yA) ?_);refine yy.imp (yp (Pur.stepA y9) rfl rfl) (yA)
   ·exact absurd hc (by simp)
  refine gq ?_;refine RetQ.ret (.many (by decide) (.cons (.cellA rfl rfl rfl rfl ty32 (LeV.eq ?_)) (.cons (.tmp rfl (LeV.eq ?_)) (.cons (.tmp rfl (LeV.eq ?_)) .nil))));all_goals (first | rfl | exact congrArg (fun y => btsA y) hV | exact congrArg (fun y => AV.bool (ltQ (mMk n) y)) hV)
set_option maxHeartbeats 2000000 in
theorem zdu (a b : List (List Sg)) (ha : a.length <= 1000000) (hb : b.length <= 1000000) (hs : ∀ x ∈ a, x.length <= 1000000) : Fn Tryz.prog 28 [zw a, zw b] (.bool (wiQ a b)) := by
 refine Fn.go Tryz.func28 Tryz.ntmps28 (fun g w d => ?_);refine gq ?_
 refine yY (ι := Nat × Nat) (fun (p : Nat × Nat) => [(0, zw a), (1, zw b), (5, iv (p.2 : Int)), (6, iv (p.1 : Int))]) (fun (p : Nat × Nat) => []) (fun (p : Nat × Nat) => p.1 <= a.length /\ p.2 <= b.length /\ wiQ a b = wiQ (a.drop p.1) (b.drop p.2)) (fun (p : Nat × Nat) => a.length - p.1) (0, 0) (fun p hk => ?_) (hJ := by
  exact ⟨by dsimp only; omega, by dsimp only; omega, rfl⟩) (h0 := by
  exact yf)
 obtain ⟨i, k0⟩ := p;obtain ⟨k1, k2, k3⟩ := hk;dsimp only at *
 refine gd ?_ ?_<;>intro hc1
 ·obtain ⟨x, hx⟩ : ∃ x, a[i]? = some x := ⟨_, lgg (by omega)⟩;have hx2 : a[(i : Int).toNat]? = some x := by simpa using hx
  have hxl := hs x (List.mem_of_getElem? hx);refine gq ?_
  refine yY (ι := Nat) (fun (k : Nat) => [(0, zw a), (1, zw b), (5, iv (k : Int)), (6, iv (i : Int))]) (fun (k : Nat) => []) (fun (k : Nat) => k <= b.length /\ wiQ a b = wiQ (a.drop i) (b.drop k)) (fun (k : Nat) => b.length - k) k0 (fun k hk => ?_) (hJ := by
   exact ⟨by omega, k3⟩) (h0 := by
   exact yf)
  obtain ⟨j1, j2⟩ := hk;refine gq ?_;refine zj [13,14,15,16,17,18,19,20,21,22,23,24,25,26,27,28] [0,0,2,7,15,31,31,127,255,31,31,1567,3615,8191,16383,32767] mo ?_;iterate 5 refine yc ?_
  iterate 8 refine ChM.gi ?_
  refine ChM.cg (zL x (b.getD (k : Int).toNat default) (by omega)) ?_;refine ChM.gi ?_;refine yc ?_;refine yJ ?_;refine gd ?_ ?_<;>intro hc2
  ·obtain ⟨w1, w2⟩ := hc2;obtain ⟨y, hy⟩ : ∃ y, b[k]? = some y := ⟨_, lgg (by omega)⟩;have ey : b.getD (k : Int).toNat default = y := by rw [Int.toNat_natCast, List.getD_eq_getElem?_getD, hy]; rfl
   rw [ey] at w2;have hst2 := zuS hx hy w2;refine gq ?_
   refine yC (k + 1) (hJ := by
    exact ⟨by omega, by rw [j2, hst2]⟩) (hI := yf)
  ·refine gd ?_ ?_<;>intro hc3
   ·refine gq ?_;all_goals (rw [j2, zuT hx (by omega)])
   obtain ⟨y, hy⟩ : ∃ y, b[k]? = some y := ⟨_, lgg (by omega)⟩;have ey : b.getD (k : Int).toNat default = y := by rw [Int.toNat_natCast, List.getD_eq_getElem?_getD, hy]; rfl
   have hst3 := zuR hx hy (by rcases hc2 with w | w; (omega); (rw [ey] at w; exact w));refine gq ?_
   refine yC ((i + 1, k + 1)) (hJ := by
    exact ⟨by dsimp only; omega, by dsimp only; omega, by dsimp only; rw [j2, hst3]⟩) (hI := yf)
 ·refine gq ?_;all_goals (rw [k3, zsx (by omega)])
end Go.Rse
namespace Go.Rse
open Go Go.Proofs
attribute [local irreducible] Pur yu yy Ex X Fn Imp LeV LeB FnO It yz FnW FnOW FnP FnD
attribute [local irreducible] ltQ mMk mzV wlV wyL wcnE wcnV hbM mnF8 miV wiQ orI beJ isJ
set_option maxHeartbeats 8000000 in
set_option maxRecDepth 100000 in
theorem C_tactuslaw24_WritingsHabits (nums : List Int) (n : Int) (hr : ∀ x, x ∈ nums -> -9223372036854775808 <= x /\ x <= 9223372036854775807) (hnl : nums.length <= maxLen) (hn : -9223372036854775808 <= n /\ n <= 9223372036854775807) : Fn Tryz.prog 4 [ye nums, iv n] (.bool true) := by
 have hmd := zeF nums n hnl hr hn;have hM := zrK n;have hml := zpM nums;have hmw := zsw hM (L := nums);generalize mMk n = m at hmd hM hmw;generalize mzV nums = z at hmd hml hmw;refine Fn.go Tryz.func4 Tryz.ntmps4 (fun g w d => ?_);refine gq ?_;refine yb zbB ?_;refine gq ?_;refine yb hmd ?_;refine gd ?_ ?_<;>intro hc1
 ·refine gq ?_;all_goals (first | rfl | simp)
 have hw0 : ∀ x, wcnE m z x = 0 := fun x => zst hmw (by omega) hc1 x
 have hv0 : ∀ x, wlV m z x = wyL m z x := fun x => by unfold wlV; rw [if_pos (hw0 x)]
 have hAl : ∀ x, Fn Tryz.prog 24 [mnA m, btsA z, hbA x] (.tup [zw (wyL m z x), iv 0]) := fun x => by have h := zal m z x (by omega); rw [hv0 x, hw0 x] at h; exact h
 have hln : ∀ x, (wyL m z x).length <= 4096 /\ ∀ y ∈ wyL m z x, y.length <= 24 := fun x => by have h := zkM (hw0 x); rw [hv0 x] at h; exact h
 have hMi : Fn Tryz.prog 27 [mnA m, btsA z] (.tup [.sl hbE (mnF8 m z 8), iv 0]) := by have h := zbY m z (by omega); rw [hw0, show miV m z = mnF8 m z 8 by unfold miV; rw [if_pos (hw0 _)]] at h; exact h
 refine gq ?_;refine yb hMi ?_;refine gd ?_ ?_<;>intro hc2
 ·exact absurd rfl hc2
 refine gq ?_
 refine yY (ι := Nat) (fun (q : Nat) => [(5, .bool true), (6, .ptr 6 0 0 0), (7, btsA z), (9, .sl hbE (mnF8 m z 8)), (11, iv (q : Int))]) (fun (q : Nat) => [(6, .box (mnE m) 32)]) (fun (q : Nat) => q <= 8) (fun (q : Nat) => 8 - q) 0 (fun q hk => ?_) (hJ := by
  exact Nat.zero_le _) (h0 := by
  exact yf)
 refine gd ?_ ?_<;>intro hc3
 ·have hq8 : q < 8 := by omega
  have hup := zsu q hq8;rw [Bool.and_eq_true, Bool.and_eq_true, Bool.and_eq_true, decide_eq_true_iff, decide_eq_true_iff, decide_eq_true_iff] at hup;obtain ⟨hu3, hu0, hu1, hu2⟩ := hup;have hwi : wiQ (wyL m z (hbM (q : Int))) (wyL m z (hbM (upQ q))) = true := (zjg _ _).2 (zlP hu3 m z);refine gq ?_;refine zj [12,13,43,44,45,46,47,48,49,50] [0,0,0,4,15,31,63,63,127,511] mo ?_;iterate 3 refine yc ?_
  refine yP (yO (q : Int)) ?_;refine yP (hAl (hbM (q : Int))) ?_;iterate 5 refine yc ?_
  refine yJ ?_;refine gq ?_;refine zj [14,15,51,52,53,54,55,56,57,58,59,60,61,62] [0,0,0,0,8,24,60,124,255,511,1023,1023,2047,8191] mo ?_;iterate 5 refine yc ?_
  refine ChM.step rfl rfl rfl (Pur.stepA (zvj rfl rfl hu0 hu1 hu2)) rfl ?_;refine ChM.step rfl rfl rfl (Pur.stepA (zuI rfl rfl)) rfl ?_;refine yP (yO (upQ q)) ?_;refine yP (hAl (hbM (upQ q))) ?_;iterate 5 refine yc ?_
  refine yJ ?_;apply Ex.nil;apply yn;apply yg;iterate 2 refine ya ?_
  refine ExF.at 2 ?_;refine gq ?_;refine ExF.cg (zdu (wyL m z (hbM (q : Int))) (wyL m z (hbM (upQ q))) (by have := (hln (hbM (q : Int))).1; omega) (by have := (hln (hbM (upQ q))).1; omega) (fun x hx => by have := (hln (hbM (q : Int))).2 x hx; omega)) ?_;refine ExF.gi ?_;refine ym ?_;refine gd ?_ ?_<;>intro hc4
  ·simp [hwi] at hc4
  apply yw;apply yg;refine zp ?_;apply yn;apply yg;refine yx ?_;apply X.block;have hb00 : false = beJ (mnF8 m z 8) (hbM (q : Int)) 0 := by unfold beJ; rfl
  have hb01 : false = isJ (mnF8 m z 8) (hbM (q : Int)) 0 := by unfold isJ; rfl
  refine yY (ι := Nat) (fun (i : Nat) => [(5, .bool true), (6, .ptr 6 0 0 0), (7, btsA z), (9, .sl hbE (mnF8 m z 8)), (11, iv (q : Int)), (12, zw (wyL m z (hbM (q : Int)))), (16, .bool (beJ (mnF8 m z 8) (hbM (q : Int)) i)), (17, .bool (isJ (mnF8 m z 8) (hbM (q : Int)) i)), (18, iv (i : Int))]) (fun (i : Nat) => [(6, .box (mnE m) 32)]) (fun (i : Nat) => i <= (mnF8 m z 8).length) (fun (i : Nat) => (mnF8 m z 8).length - i) 0 (fun i hk => ?_) (hJ := by
   exact Nat.zero_le _) (h0 := by
   exact yf)
  refine gd ?_ ?_<;>intro hc5
  ·have hmn := zhf m z 8;obtain ⟨x, hx⟩ : ∃ x, (mnF8 m z 8)[i]? = some x := ⟨_, lgg (by omega)⟩;have hx2 : (mnF8 m z 8)[(i : Int).toNat]? = some x := by simpa using hx
   have hst1 := zuK (q := (q : Int)) hx;have hst2 := zuL (q := hbM (q : Int)) hx;refine gq ?_;refine zj [85,86,87,88,89,90] [0,1,3,3,11,31,63,127] mo ?_;(iterate 2 refine yc ?_);(iterate 2 refine ChM.gi ?_);refine ChM.cg (yO (q : Int)) ?_;refine ChM.gi ?_ (hs := by intro hgd; exact zdM (zk7 _ _) inferInstance TyK.h rfl rfl rfl rfl rfl);refine yJ ?_;refine zp ?_;apply yo;refine ya ?_;refine ExF.at 1 ?_;refine yE ?_;(iterate 27 refine ExF.gi ?_);refine ym ?_;refine gq ?_;refine yC (i + 1) (hI := yf)
  ·obtain rfl : i = (mnF8 m z 8).length := by omega
   have hb1 := zuM (m := m) (l := z) hq8;have hb2 := zuN (m := m) (l := z) hq8;apply X.exit;apply yg;(iterate 5 refine ya ?_);refine ExF.at 5 ?_;refine yE ?_;(iterate 6 refine ExF.gi ?_);refine ym ?_;refine gd ?_ ?_<;>intro hc6
   ·exact (zsv hb1 hb2 hc6).elim
   refine gq ?_;refine yC (q + 1) (hI := yf)
 ·refine gq ?_;all_goals (first | rfl | simp)
end Go.Rse
