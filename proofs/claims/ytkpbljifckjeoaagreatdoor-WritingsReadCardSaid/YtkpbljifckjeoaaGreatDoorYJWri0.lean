/-
  Plain.
-/
import Derived.Test.YtkpbljifckjeoaaGreatDoorYJDurs2
set_option linter.unusedSimpArgs false
set_option linter.unusedVariables false
namespace Go.Rse
open Go Go.Proofs
section
structure Bt where
 Dur : Tm
 Rest : Bool
 deriving DecidableEq
def btE : Bt -> List AV := fun b => [iv b.Dur.N, iv b.Dur.D, .bool b.Rest]
abbrev btA (b : Bt) : AV := .agg (btE b)
abbrev btsA (l : List Bt) : AV := .sl btE l
theorem zlM (a b : Bt) : eqL (btE a) (btE b) = some (decide (a = b)) := by
 obtain ⟨⟨a1, a2⟩, a3⟩ := a;obtain ⟨⟨b1, b2⟩, b3⟩ := b;refine (y8 rfl (y8 rfl (y8 rfl rfl))).trans ?_;simp only [Bt.mk.injEq, Tm.mk.injEq, Bool.decide_and, Bool.and_assoc, Bool.and_true, Bool.beq_eq_decide_eq]
structure Hb where
 Color : Bool
 Dots : Bool
 Alter : Bool
 deriving DecidableEq
def hbE : Hb -> List AV := fun h => [.bool h.Color, .bool h.Dots, .bool h.Alter]
abbrev hbA (h : Hb) : AV := .agg (hbE h)
def sgsE : List Sg -> List AV := fun l => [sgsA l]
abbrev zF (L : List (List Sg)) : AV := .sl sgsE L
def zhe : List (List Sg) -> List AV := fun l => [zF l]
abbrev chsA (L : List (List (List Sg))) : AV := .sl zhe L
structure Fo where
 v : Int
 c : Bool
 d : Bool
 deriving DecidableEq
instance : Inhabited Fo := ⟨⟨0, false, false⟩⟩
def foE : Fo -> List AV := fun f => [iv f.v, .bool f.c, .bool f.d]
abbrev foA (f : Fo) : AV := .agg (foE f)
theorem zpS (a b : Fo) : eqL (foE a) (foE b) = some (decide (a = b)) := by
 cases a; cases b;refine (y8 rfl (y8 rfl (y8 rfl rfl))).trans ?_;simp only [Fo.mk.injEq, Bool.decide_and, Bool.and_assoc, Bool.and_true, Bool.beq_eq_decide_eq]
def b2i (b : Bool) : Int := if b then 1 else 0
def foN (f : Fo) : Int := 4 * f.v + 2 * b2i f.c + b2i f.d
theorem zaf (b : Bool) : 0 <= b2i b /\ b2i b <= 1 := by cases b <;> decide
theorem zlN {a b : Bool} (h : b2i a = b2i b) : a = b := by cases a <;> cases b <;> simp_all [b2i]
theorem zlO {f g : Fo} (h : foN f = foN g) : f = g := by
 have h1 := zaf f.c;have h2 := zaf f.d;have h3 := zaf g.c;have h4 := zaf g.d;unfold foN at h;have e1 : f.v = g.v := by omega
 have e2 : b2i f.c = b2i g.c := by omega
 have e3 : b2i f.d = b2i g.d := by omega
 cases f; cases g;simp at e1 e2 e3;subst e1;rw [zlN e2, zlN e3]
def btC (b : Bt) : Int := if ckT b.Dur = 0 then (if b.Dur.N = 0 then 2 else 0) else ckT b.Dur
def btF : List Bt -> Int
 | [] => 0
 | b :: r => if btC b = 0 then btF r else btC b
def wcE (m : Mn) (l : List Bt) : Int := if ckM m = 0 then btF l else ckM m
theorem zfg : ∀ {l : List Bt}, btF l = 0 ↔ ∀ b ∈ l, btC b = 0
 | [] => by simp [btF]
 | b :: r => by
  unfold btF;split
  ·rename_i h; rw [zfg (l := r)]; simp [h]
  ·rename_i h; simp [h]
theorem zhf {l : List Bt} {i : Nat} {b : Bt} (hi : l[i]? = some b) (h : btF (l.take i) = 0) : btF (l.take (i + 1)) = btC b := by
 have key : ∀ (l r : List Bt), btF l = 0 -> btF (l ++ r) = btF r := by
  intro l r
  induction l with
  | nil => intro _; rfl
  | cons x l ih =>
   intro hx;unfold btF at hx;split at hx
   ·rename_i h0; show (if btC x = 0 then btF (l ++ r) else btC x) = _; rw [if_pos h0]; exact ih hx
   ·exact absurd hx ‹_›
 rw [List.take_add_one, hi, key _ _ h];show (if btC b = 0 then 0 else btC b) = btC b;split
 ·rename_i h0; exact h0.symm
 ·rfl
theorem zhg {l : List Bt} {i : Nat} (h : ¬ btF (l.take i) = 0) : btF l = btF (l.take i) := by
 have key : ∀ (l r : List Bt), ¬ btF l = 0 -> btF (l ++ r) = btF l := by
  intro l r
  induction l with
  | nil => intro h; exact absurd rfl h
  | cons x l ih =>
   intro hx;unfold btF at hx;split at hx
   ·rename_i h0;show (if btC x = 0 then btF (l ++ r) else btC x) = (if btC x = 0 then btF l else btC x);rw [if_pos h0, if_pos h0]; exact ih hx
   ·rename_i h0;show (if btC x = 0 then btF (l ++ r) else btC x) = (if btC x = 0 then btF l else btC x);rw [if_neg h0, if_neg h0]
 conv => lhs; rw [← List.take_append_drop i l]
 exact key _ _ h
def usQ (s : Sp) (h : Hb) : Bool := if s.Way = 5 \/ s.Way = 7 then h.Color else if s.Way = 6 then h.Color && h.Dots else if s.Way = 2 then h.Dots else if s.Way = 4 then h.Alter else true
def slQ (b : Bt) (h : Hb) (s : Sp) : Bool := decide (s.Rest = b.Rest) && usQ s h
def fkS (b : Bt) (h : Hb) (s : Sp) : List Fo := if slQ b h s then (if s.Dot then [] else [⟨s.Value, s.Color, false⟩]) ++ (if h.Dots then [⟨s.Value, s.Color, true⟩] else []) else []
def fkL (b : Bt) (h : Hb) (L : List Sp) : List Fo := L.flatMap (fkS b h)
def foS (r : Bool) (f : Fo) : List Sg :=
 let s : Sg := if r then ⟨2, f.v, 0, 0, false, 0, false, false, ⟨0, 0, 0, 0⟩, false, 0, 0, 0, 0⟩ else ⟨1, f.v, 4, 0, f.c, 0, false, false, ⟨0, 0, 0, 0⟩, false, 0, 0, 0, 0⟩
 if f.d then [s, ⟨3, 0, 0, 0, false, 0, false, false, ⟨0, 0, 0, 0⟩, false, 0, 0, 0, 0⟩] else [s]
def rkC (b : Bt) (h : Hb) (L : List Sp) (v : Int) (c : Bool) : List Fo :=
 (if L.any (fun s => slQ b h s && decide (s.Value = v) && decide (s.Color = c) && !s.Dot) then [⟨v, c, false⟩] else []) ++
 (if L.any (fun s => slQ b h s && decide (s.Value = v) && decide (s.Color = c)) && h.Dots then [⟨v, c, true⟩] else [])
def rkV (b : Bt) (h : Hb) (L : List Sp) (v : Int) : List Fo := rkC b h L v false ++ rkC b h L v true
def rkL (b : Bt) (h : Hb) (L : List Sp) : Nat -> List Fo
 | 0 => []
 | n + 1 => rkL b h L n ++ rkV b h L (1 + (n : Int))
theorem zgu {b : Bt} {h : Hb} {L : List Sp} {v : Int} {c : Bool} {f : Fo} : f ∈ rkC b h L v c ↔ f.v = v /\ f.c = c /\ f ∈ fkL b h L := by
 unfold rkC fkL;rw [List.mem_append, List.mem_flatMap];constructor
 ·rintro (hf | hf)
  ·split at hf
   ·rename_i ha;rw [List.mem_singleton] at hf; subst hf;rw [List.any_eq_true] at ha;obtain ⟨s, hs, h1⟩ := ha;simp only [Bool.and_eq_true, decide_eq_true_eq, Bool.not_eq_true'] at h1;obtain ⟨⟨⟨h1, h2⟩, h3⟩, h4⟩ := h1;refine ⟨rfl, rfl, s, hs, ?_⟩;unfold fkS; rw [if_pos h1, h4, h2, h3]; simp
   ·simp at hf
  ·split at hf
   ·rename_i ha;rw [List.mem_singleton] at hf; subst hf;rw [Bool.and_eq_true, List.any_eq_true] at ha;obtain ⟨⟨s, hs, h1⟩, hd⟩ := ha;simp only [Bool.and_eq_true, decide_eq_true_eq] at h1;obtain ⟨⟨h1, h2⟩, h3⟩ := h1;refine ⟨rfl, rfl, s, hs, ?_⟩;unfold fkS; rw [if_pos h1, h2, h3, hd]; simp
   ·simp at hf
 ·rintro ⟨rfl, rfl, s, hs, hf⟩
  unfold fkS at hf;split at hf
  ·rename_i h1;rw [List.mem_append] at hf;rcases hf with hf | hf
   ·split at hf
    ·simp at hf
    ·rename_i hd;rw [List.mem_singleton] at hf; subst hf;refine .inl ?_;rw [if_pos (List.any_eq_true.2 ⟨s, hs, by simp [h1]; simpa using hd⟩)]; simp
   ·split at hf
    ·rename_i hd;rw [List.mem_singleton] at hf; subst hf;refine .inr ?_;rw [if_pos (by rw [Bool.and_eq_true]; exact ⟨List.any_eq_true.2 ⟨s, hs, by simp [h1]⟩, hd⟩)]; simp
    ·simp at hf
  ·simp at hf
theorem zlP {b : Bt} {h : Hb} {L : List Sp} {v : Int} {f : Fo} : f ∈ rkV b h L v ↔ f.v = v /\ f ∈ fkL b h L := by
 unfold rkV;rw [List.mem_append, zgu, zgu];cases hc : f.c <;> simp
theorem zjh {b : Bt} {h : Hb} {L : List Sp} {f : Fo} : ∀ n, f ∈ rkL b h L n ↔ (1 <= f.v /\ f.v <= (n : Int)) /\ f ∈ fkL b h L
 | 0 => by
  simp [rkL]; intro h1 h2; omega
 | n + 1 => by
  unfold rkL;rw [List.mem_append, zjh n, zlP];constructor
  ·rintro (⟨⟨h1, h2⟩, h3⟩ | ⟨h1, h2⟩)
   ·exact ⟨⟨h1, by omega⟩, h3⟩
   ·exact ⟨by omega, h2⟩
  ·rintro ⟨⟨h1, h2⟩, h3⟩
   by_cases e : f.v = 1 + (n : Int)
   ·exact .inr ⟨e, h3⟩
   ·exact .inl ⟨⟨h1, by omega⟩, h3⟩
def foL (f g : Fo) : Prop := foN f < foN g
theorem zn5 (b : Bt) (h : Hb) (L : List Sp) (v : Int) (c : Bool) : (rkC b h L v c).Pairwise foL := by
 unfold rkC;rw [List.pairwise_append];refine ⟨by split <;> simp, by split <;> simp, fun x hx y hy => ?_⟩;split at hx
 ·split at hy
  ·rw [List.mem_singleton] at hx hy; subst hx; subst hy;unfold foL foN; simp [b2i]; omega
  ·simp at hy
 ·simp at hx
theorem zsz (b : Bt) (h : Hb) (L : List Sp) (v : Int) : (rkV b h L v).Pairwise foL := by
 unfold rkV;rw [List.pairwise_append];refine ⟨zn5 b h L v _, zn5 b h L v _, fun x hx y hy => ?_⟩;obtain ⟨x1, x2, -⟩ := zgu.1 hx;obtain ⟨y1, y2, -⟩ := zgu.1 hy;have h1 := zaf x.d;have h2 := zaf y.d;unfold foL foN; rw [x1, x2, y1, y2]; simp [b2i] at *; omega
theorem zkQ (b : Bt) (h : Hb) (L : List Sp) : ∀ n, (rkL b h L n).Pairwise foL
 | 0 => by simp [rkL]
 | n + 1 => by
  unfold rkL;rw [List.pairwise_append];refine ⟨zkQ b h L n, zsz b h L _, fun x hx y hy => ?_⟩;have hx := ((zjh n).1 hx).1;have hy := (zlP.1 hy).1;have h1 := zaf x.c;have h2 := zaf y.c;have h3 := zaf x.d;have h4 := zaf y.d;unfold foL foN; omega
def frL (m : Mn) (b : Bt) (h : Hb) : List Fo := rkL b h (allE m b.Dur) 8
def frV (m : Mn) (b : Bt) (h : Hb) : List (List Sg) := (frL m b h).map (foS b.Rest)
theorem zn6 {m : Mn} {t : Tm} {v : Int} : ∀ n, ∀ s ∈ alI m t v n, ∃ w : Nat, 1 <= w /\ w < n /\ s = spOf v (w : Int)
 | 0, s, h => by simp [alI] at h
 | n + 1, s, h => by
  unfold alI at h;split at h
  ·rename_i hn;rcases List.mem_append.1 h with h | h
   ·obtain ⟨w, h1, h2, h3⟩ := zn6 n s h; exact ⟨w, h1, by omega, h3⟩
   ·rw [List.mem_singleton] at h; exact ⟨n, by omega, by omega, h⟩
  ·obtain ⟨w, h1, h2, h3⟩ := zn6 n s h; exact ⟨w, h1, by omega, h3⟩
theorem zrr {m : Mn} {t : Tm} : ∀ n, ∀ s ∈ alO m t n, ∃ v w : Nat, 1 <= v /\ v <= n /\ 1 <= w /\ w < 9 /\ s = spOf (v : Int) (w : Int)
 | 0, s, h => by simp [alO] at h
 | n + 1, s, h => by
  unfold alO at h;rcases List.mem_append.1 h with h | h
  ·obtain ⟨v, w, h1, h2, h3⟩ := zrr n s h; exact ⟨v, w, h1, by omega, h3⟩
  ·obtain ⟨w, h1, h2, h3⟩ := zn6 9 s h;exact ⟨1 + n, w, by omega, by omega, h1, h2, by rw [h3]; congr 1⟩
theorem zkR {m : Mn} {t : Tm} {s : Sp} (h : s ∈ allE m t) : ∃ v w : Nat, 1 <= v /\ v <= 8 /\ 1 <= w /\ w < 9 /\ s = spOf (v : Int) (w : Int) := by
 unfold allE at h;split at h
 ·exact zrr 8 s h
 ·simp at h
theorem zrs {m : Mn} {b : Bt} {h : Hb} {f : Fo} : f ∈ frL m b h ↔ f ∈ fkL b h (allE m b.Dur) := by
 unfold frL;rw [zjh];refine ⟨fun h => h.2, fun hf => ⟨?_, hf⟩⟩;unfold fkL at hf;obtain ⟨s, hs, hf⟩ := List.mem_flatMap.1 hf;obtain ⟨v, w, h1, h2, -, -, rfl⟩ := zkR hs;unfold fkS at hf
 have : f.v = (v : Int) := by
  split at hf
  ·rcases List.mem_append.1 hf with hf | hf
   ·split at hf
    ·simp at hf
    ·rw [List.mem_singleton] at hf; rw [hf]; rfl
   ·split at hf
    ·rw [List.mem_singleton] at hf; rw [hf]; rfl
    ·simp at hf
  ·simp at hf
 constructor <;> simp [this] <;> omega
theorem zmX {l : List Fo} {m : Mn} {b : Bt} {h : Hb} (hp : l.Pairwise foL) (hm : ∀ f, f ∈ l ↔ f ∈ fkL b h (allE m b.Dur)) : l = frL m b h := by
 have nd : ∀ {L : List Fo}, L.Pairwise foL -> L.Nodup := fun hp => List.Pairwise.imp (fun {a b} hab e => by subst e; unfold foL at hab; omega) hp
 have hq : (frL m b h).Pairwise foL := zkQ _ _ _ _;refine List.Perm.eq_of_pairwise (le := foL) (fun a b _ _ h3 h4 => absurd h4 (by unfold foL at *; omega)) hp hq ((List.perm_ext_iff_of_nodup (nd hp) (nd hq)).2 fun x => by rw [hm x, zrs])
theorem zlQ (m : Mn) (b : Bt) (h : Hb) : (frL m b h).length <= 32 := by
 have key : ∀ n, (rkL b h (allE m b.Dur) n).length <= 4 * n := by
  intro n
  induction n with
  | zero => simp [rkL]
  | succ n ih =>
   have hC : ∀ c, (rkC b h (allE m b.Dur) (1 + (n : Int)) c).length <= 2 := fun c => by
    unfold rkC; rw [List.length_append];split <;> split <;> simp
   have h1 := hC false;have h2 := hC true;unfold rkL rkV;simp only [List.length_append]; omega
 exact key 8
theorem zdY (m : Mn) (b : Bt) (h : Hb) : (frV m b h).length <= 32 := by
 unfold frV; rw [List.length_map]; exact zlQ m b h
def urQ (b : Bt) (h : Hb) (s : Sp) : Bool := decide (s.Rest = b.Rest) && (!s.Color || h.Color) && (!s.Dot || h.Dots) && (!decide (s.Way = 4) || h.Alter)
theorem zrt {m : Mn} {t : Tm} {s : Sp} (hs : s ∈ allE m t) (b : Bt) (h : Hb) : urQ b h s = slQ b h s := by
 obtain ⟨v, w, -, -, h1, h2, rfl⟩ := zkR hs;have hw : w = 1 \/ w = 2 \/ w = 3 \/ w = 4 \/ w = 5 \/ w = 6 \/ w = 7 \/ w = 8 := by omega
 obtain ⟨c, d, a⟩ := h;unfold urQ slQ usQ;rcases hw with rfl | rfl | rfl | rfl | rfl | rfl | rfl | rfl <;> (rw [Bool.and_assoc, Bool.and_assoc]; refine congrArg (fun z => _ && z) ?_) <;> cases c <;> cases d <;> cases a <;> rfl
end
section
theorem zuI {m : Mn} {l : List Bt} (h : ¬ ckM m = 0) : wcE m l = ckM m := by unfold wcE; rw [if_neg h]
theorem zxK {m : Mn} {l : List Bt} {k : Nat} {b : Bt} (h0 : ckM m = 0) (hb : l[k]? = some b) (h2 : btF (l.take k) = 0) (h : ¬ ckT b.Dur = 0) : wcE m l = ckT b.Dur := by
 have e := zhf hb h2;have e2 : btC b = ckT b.Dur := by unfold btC; rw [if_neg h]
 unfold wcE; rw [if_pos h0, zhg (i := k + 1) (by rw [e, e2]; exact h), e, e2]
theorem zxL {m : Mn} {l : List Bt} {k : Nat} {b : Bt} (h0 : ckM m = 0) (hb : l[k]? = some b) (h2 : btF (l.take k) = 0) (h : ckT b.Dur = 0) (h3 : b.Dur.N = 0) : wcE m l = 2 := by
 have e := zhf hb h2;have e2 : btC b = 2 := by unfold btC; rw [if_pos h, if_pos h3]
 unfold wcE; rw [if_pos h0, zhg (i := k + 1) (by rw [e, e2]; decide), e, e2]
theorem zxM {l : List Bt} {k : Nat} {b : Bt} (hb : l[k]? = some b) (h2 : btF (l.take k) = 0) (h : ckT b.Dur = 0) (h3 : ¬ b.Dur.N = 0) : btF (l.take (k + 1)) = 0 := by
 rw [zhf hb h2]; unfold btC; rw [if_pos h, if_neg h3]
theorem zuJ {m : Mn} {l : List Bt} (h0 : ckM m = 0) (h : btF (l.take l.length) = 0) : wcE m l = 0 := by
 rw [List.take_length] at h; unfold wcE; rw [if_pos h0, h]
def durB (l : List Bt) : List Tm := l.map (·.Dur)
theorem zn7 {l : List Bt} {k : Nat} {b : Bt} (h : l[k]? = some b) : durB (l.take k) ++ [b.Dur] = durB (l.take (k + 1)) := by
 unfold durB; rw [List.take_add_one, h]; simp
theorem zhh (l : List Bt) : (durB l).length = l.length := by unfold durB; simp
def cmpI (a b : Int) : Int := if a < b then -1 else if b < a then 1 else 0
def orV : List Int -> Int
 | [] => 0
 | x :: r => if x = 0 then orV r else x
theorem zuK {l : List Int} {k : Nat} {x : Int} (h : l[k]? = some x) : orV (l.drop k) = if x = 0 then orV (l.drop (k + 1)) else x := by
 have h1 := List.getElem?_eq_some_iff.1 h;rw [List.drop_eq_getElem_cons h1.1, h1.2]; rfl
def foC (f g : Fo) : Int := orV [cmpI f.v g.v, cmpI (b2i f.c) (b2i g.c), cmpI (b2i f.d) (b2i g.d)]
theorem zW (f g : Fo) : (foC f g < 0 ↔ foN f < foN g) /\ (foC f g = 0 ↔ foN f = foN g) := by
 have h1 := zaf f.c;have h2 := zaf g.c;have h3 := zaf f.d;have h4 := zaf g.d;unfold foC foN;generalize b2i f.c = a at *
 generalize b2i g.c = b at *
 generalize b2i f.d = c at *
 generalize b2i g.d = d at *
 generalize f.v = x;generalize g.v = y;simp only [orV, cmpI];constructor <;> (repeat' split) <;> omega
attribute [local irreducible] Pur yr yw Ex X Fn Imp LeV LeB FnO It yx
attribute [local irreducible] wcE btF ckT ckM
theorem zcp (m : Mn) (l : List Bt) (hl : l.length <= 4000000000) : Fn Tryz.prog 51 [mnA m, btsA l] (iv (wcE m l)) := by
 refine Fn.go Tryz.func51 Tryz.ntmps51 (fun g w d => ?_);refine gq ?_;refine yb (zat ..) ?_;refine gd ?_ ?_<;>intro hc1
 ·have hV := zuI (l := l) hc1;refine gq ?_;all_goals (rw [hV])
 have h0 : ckM m = 0 := by omega
 refine gq ?_
 refine yS (ι := Nat) (fun (k : Nat) => [(14, btsA l), (15, iv (l.length : Int)), (16, iv (k : Int))]) (fun (k : Nat) => []) (fun (k : Nat) => k <= l.length /\ btF (l.take k) = 0) (fun (k : Nat) => l.length - k) 0 (fun k hk => ?_) (hJ := by
  exact ⟨by omega, by unfold btF; rfl⟩) (h0 := by
  exact yd)
 obtain ⟨hk1, hk2⟩ := hk;refine gd ?_ ?_<;>intro hc2
 ·obtain ⟨b, hb⟩ : ∃ b, l[k]? = some b := ⟨_, lgg (by omega)⟩;have hb2 : l[(k : Int).toNat]? = some b := by simpa using hb
  refine gq ?_;refine yb (zbF ..) ?_;refine gd ?_ ?_<;>intro hc3
  ·have hV := zxK h0 hb hk2 hc3;refine gq ?_;all_goals (rw [hV])
  have h3 : ckT b.Dur = 0 := by omega
  refine gd ?_ ?_<;>intro hc4
  ·have hV := zxL h0 hb hk2 h3 hc4;refine gq ?_;all_goals (rw [hV])
  have hst := zxM hb hk2 h3 hc4;refine gq ?_
  refine yz (k + 1) (hJ := by
   exact ⟨by omega, hst⟩) (hI := yd)
 ·obtain rfl : k = l.length := by omega
  have hV := zuJ h0 hk2;refine gq ?_;all_goals (rw [hV])
theorem zji (s : Sp) (h : Hb) : Fn Tryz.prog 80 [spA s, hbA h] (.bool (usQ s h)) := by
 refine Fn.go Tryz.func80 Tryz.ntmps80 (fun g w d => ?_);refine gd ?_ ?_<;>intro hc1
 ·refine gd ?_ ?_<;>intro hc2
  ·refine gq ?_;all_goals (first | (simp [usQ, *]; done) | (simp_all [usQ]; done) | (exfalso; omega))
  refine gd ?_ ?_<;>intro hc3
  ·apply yg;(iterate 2 refine ya ?_);refine ExF.at 2 ?_;refine yA ?_;(iterate 2 refine ExF.gi ?_);refine ge ?_;all_goals (first | (simp [usQ, *]; done) | (simp_all [usQ]; done) | (exfalso; omega))
  refine gd ?_ ?_<;>intro hc4
  ·refine gq ?_;all_goals (first | (simp [usQ, *]; done) | (simp_all [usQ]; done) | (exfalso; omega))
  refine gd ?_ ?_<;>intro hc5
  ·refine gq ?_;all_goals (first | (simp [usQ, *]; done) | (simp_all [usQ]; done) | (exfalso; omega))
  refine gq ?_;all_goals (first | (simp [usQ, *]; done) | (simp_all [usQ]; done) | (exfalso; omega))
 ·refine gd ?_ ?_<;>intro hc6
  ·refine gq ?_;all_goals (first | (simp [usQ, *]; done) | (simp_all [usQ]; done) | (exfalso; omega))
  refine gd ?_ ?_<;>intro hc7
  ·apply yg;(iterate 2 refine ya ?_);refine ExF.at 2 ?_;refine yA ?_;(iterate 2 refine ExF.gi ?_);refine ge ?_;all_goals (first | (simp [usQ, *]; done) | (simp_all [usQ]; done) | (exfalso; omega))
  refine gd ?_ ?_<;>intro hc8
  ·refine gq ?_;all_goals (first | (simp [usQ, *]; done) | (simp_all [usQ]; done) | (exfalso; omega))
  refine gd ?_ ?_<;>intro hc9
  ·refine gq ?_;all_goals (first | (simp [usQ, *]; done) | (simp_all [usQ]; done) | (exfalso; omega))
  refine gq ?_;all_goals (first | (simp [usQ, *]; done) | (simp_all [usQ]; done) | (exfalso; omega))
theorem zS (b : Bool) : Fn Tryz.prog 114 [.bool b] (iv (b2i b)) := by
 refine Fn.go Tryz.func114 Tryz.ntmps114 (fun g w d => ?_);refine gd ?_ ?_<;>intro hc1
 ·refine gq ?_;all_goals (first | (simp [b2i, *]; done) | (simp_all [b2i]; done))
 refine gq ?_;all_goals (first | (simp [b2i, *]; done) | (simp_all [b2i]; done))
theorem zdd (x : Int) : Fn Tryz.prog 59 [iv x] (.bool false) := by
 refine Fn.go Tryz.func59 Tryz.ntmps59 (fun g w d => ?_);refine gq ?_;all_goals (simp)
theorem zT (x y : Int) : Fn Tryz.prog 41 [iv x, iv y] (iv (cmpI x y)) := by
 refine Fn.go Tryz.func41 Tryz.ntmps41 (fun g w d => ?_);refine gq ?_;refine yb (zdd x) ?_;refine gq ?_;refine yb (zdd y) ?_;refine gd ?_ ?_<;>intro hc1
 ·refine gd ?_ ?_<;>intro hc2
  ·refine gq ?_;all_goals (first | (simp [cmpI, *]; done) | (simp_all [cmpI]; done) | (unfold cmpI; simp; omega))
  refine gq ?_;all_goals (first | (simp [cmpI, *]; done) | (simp_all [cmpI]; done) | (unfold cmpI; simp; omega))
 refine gd ?_ ?_<;>intro hc3
 ·refine gq ?_;all_goals (first | (simp [cmpI, *]; done) | (simp_all [cmpI]; done) | (unfold cmpI; simp; omega))
 refine gd ?_ ?_<;>intro hc4
 ·refine gq ?_;all_goals (first | (simp [cmpI, *]; done) | (simp_all [cmpI]; done) | (unfold cmpI; simp; omega))
 refine gd ?_ ?_<;>intro hc5
 ·refine gq ?_;all_goals (first | (simp [cmpI, *]; done) | (simp_all [cmpI]; done) | (unfold cmpI; simp; omega))
 refine gq ?_;all_goals (first | (simp [cmpI, *]; done) | (simp_all [cmpI]; done) | (unfold cmpI; simp; omega))
theorem zfh (l : List Int) (hl : l.length <= 4000000000) : Fn Tryz.prog 40 [yf l] (iv (orV l)) := by
 refine Fn.go Tryz.func40 Tryz.ntmps40 (fun g w d => ?_);refine gq ?_
 refine yS (ι := Nat) (fun (k : Nat) => [(3, iv 0), (6, yf l), (7, iv (l.length : Int)), (8, iv (k : Int))]) (fun (k : Nat) => []) (fun (k : Nat) => k <= l.length /\ orV l = orV (l.drop k)) (fun (k : Nat) => l.length - k) 0 (fun k hk => ?_) (hJ := by
  exact ⟨by omega, rfl⟩) (h0 := by
  exact yd)
 obtain ⟨hk1, hk2⟩ := hk;refine gd ?_ ?_<;>intro hc1
 ·obtain ⟨x, hx⟩ : ∃ x, l[k]? = some x := ⟨_, lgg (by omega)⟩;have hx2 : l[(k : Int).toNat]? = some x := by simpa using hx
  have ho := zuK hx;refine gd ?_ ?_<;>intro hc2
  ·have hV : orV l = x := by rw [hk2, ho, if_neg hc2]
   refine gq ?_;all_goals (rw [hV])
  have hst : orV l = orV (l.drop (k + 1)) := by rw [hk2, ho, if_pos (by omega)]
  refine gq ?_
  refine yz (k + 1) (hJ := by
   exact ⟨by omega, hst⟩) (hI := yd)
 ·obtain rfl : k = l.length := by omega
  have hV : orV l = 0 := by rw [hk2, List.drop_length]; rfl
  refine gq ?_;all_goals (rw [hV])
set_option maxHeartbeats 2000000 in
theorem zeF (f q : Fo) : Fn Tryz.prog 82 [foA f, foA q] (iv (foC f q)) := by
 refine Fn.go Tryz.func82 Tryz.ntmps82 (fun g w d => ?_);refine gq ?_;refine zf [4,6,7,8,9,10,11,12,13,14,15,16,17,18,19,20,21,22,23,24,25,26,27,28,29,30] [0,1,0,4,15,0,0,64,255,0,0,1024,4095,8191,0,0,32768,131071,0,0,524288,2097151,4194303,8388607,16777215,33554431] mo ?_;iterate 4 refine yc ?_
 refine yM (zT f.v q.v) ?_;iterate 3 refine yc ?_
 refine yM (zS f.c) ?_;iterate 3 refine yc ?_
 refine yM (zS q.c) ?_;refine yM (zT (b2i f.c) (b2i q.c)) ?_;iterate 3 refine yc ?_
 refine yM (zS f.d) ?_;iterate 3 refine yc ?_
 refine yM (zS q.d) ?_;refine yM (zT (b2i f.d) (b2i q.d)) ?_;refine ChM.step rfl rfl rfl (zac (enc := intE) (l := [cmpI f.v q.v, cmpI (b2i f.c) (b2i q.c), cmpI (b2i f.d) (b2i q.d)]) sl59 ty3 ze3) rfl ?_;refine yM (zfh [cmpI f.v q.v, cmpI (b2i f.c) (b2i q.c), cmpI (b2i f.d) (b2i q.d)] (by simp)) ?_;refine yc ?_;refine yE ?_;refine gq ?_;all_goals (first | rfl | (simp_all; done))
set_option maxHeartbeats 2000000 in
theorem zeG (f : Fo) (r : Bool) : Fn Tryz.prog 83 [foA f, .bool r] (sgsA (foS r f)) := by
 refine Fn.go Tryz.func83 Tryz.ntmps83 (fun g w d => ?_);refine gd ?_ ?_<;>intro hc1
 ·refine gd ?_ ?_<;>intro hc2
  ·refine gq ?_;refine yJ sgE [⟨2, f.v, 0, 0, false, 0, false, false, ⟨0, 0, 0, 0⟩, false, 0, 0, 0, 0⟩, ⟨3, 0, 0, 0, false, 0, false, false, ⟨0, 0, 0, 0⟩, false, 0, 0, 0, 0⟩] ?_;refine yu ?_;refine X.ret ?_;refine RetQ.imp (Imp.freeze (k := 19) rfl) ?_;refine gq ?_;all_goals (exact congrArg (fun z => sgsA z) (by simp [foS, *]))
  refine gq ?_;refine yJ sgE [⟨2, f.v, 0, 0, false, 0, false, false, ⟨0, 0, 0, 0⟩, false, 0, 0, 0, 0⟩] ?_;refine yu ?_;refine X.ret ?_;refine RetQ.imp (Imp.freeze (k := 21) rfl) ?_;refine gq ?_;all_goals (exact congrArg (fun z => sgsA z) (by simp [foS, *]))
 ·refine gd ?_ ?_<;>intro hc3
  ·refine gq ?_;refine yJ sgE [⟨1, f.v, 4, 0, f.c, 0, false, false, ⟨0, 0, 0, 0⟩, false, 0, 0, 0, 0⟩, ⟨3, 0, 0, 0, false, 0, false, false, ⟨0, 0, 0, 0⟩, false, 0, 0, 0, 0⟩] ?_;refine yu ?_;refine X.ret ?_;refine RetQ.imp (Imp.freeze (k := 19) rfl) ?_;refine gq ?_;all_goals (exact congrArg (fun z => sgsA z) (by simp [foS, *]))
  refine gq ?_;refine yJ sgE [⟨1, f.v, 4, 0, f.c, 0, false, false, ⟨0, 0, 0, 0⟩, false, 0, 0, 0, 0⟩] ?_;refine yu ?_;refine X.ret ?_;refine RetQ.imp (Imp.freeze (k := 21) rfl) ?_;refine gq ?_;all_goals (exact congrArg (fun z => sgsA z) (by simp [foS, *]))
theorem zfi (l : List Bt) (hl : l.length <= 4000000000) : Fn Tryz.prog 55 [btsA l] (tmsA (durB l)) := by
 have hz0 : [] = durB (l.take 0) := rfl;refine Fn.go Tryz.func55 Tryz.ntmps55 (fun g w d => ?_);apply yg;refine ya ?_;apply yI;refine yu ?_;iterate 2 apply yl
 refine X.imp (yL tmE 25 2 3 30 rfl rfl) ?_;refine gq ?_
 refine yS (ι := Nat) (fun (k : Nat) => [(6, btsA l), (7, iv (l.length : Int)), (8, iv (k : Int)), (3, .own 30)]) (fun (k : Nat) => [(30, .row tmE (durB (l.take k)) 25 2)]) (fun (k : Nat) => k <= l.length) (fun (k : Nat) => l.length - k) 0 (fun k hk => ?_) (h0 := by
  exact yd)
 refine gd ?_ ?_<;>intro hc1
 ·obtain ⟨b, hb⟩ : ∃ b, l[k]? = some b := ⟨_, lgg (by omega)⟩;have hb2 : l[(k : Int).toNat]? = some b := by simpa using hb
  have hst := zn7 hb;have hlt : (durB (l.take k)).length <= l.length := by rw [zhh, List.length_take]; omega
  refine gq ?_;refine yJ tmE [b.Dur] ?_;refine gq ?_;refine yz (k + 1) (hI := yd)
 ·obtain rfl : k = l.length := by omega
  have hV : durB (l.take l.length) = durB l := by rw [List.take_length]
  apply X.exit;apply yg;refine zm ?_;refine X.ret ?_;refine RetQ.imp (Imp.freeze (k := 30) rfl) ?_;refine gq ?_;all_goals (exact congrArg (fun z => tmsA z) hV)
theorem zjj (b : Bt) (r : Bool) : Fn Tryz.prog 53 [btA b, .bool r] (.bool (decide (b.Rest = r))) := by
 refine Fn.go Tryz.func53 Tryz.ntmps53 (fun g w d => ?_);refine gq ?_;all_goals (first | rfl | simp)
end
end Go.Rse
namespace Go.Rse
open Go Go.RowKit
section
variable {κ : Type} [DecidableEq κ]
def kyK (L : List κ) : List (κ × Bool) := L.foldl (fun a t => kput t true a) []
theorem zfj (L : List κ) (t : κ) : kput t true (kyK L) = kyK (L ++ [t]) := by
 unfold kyK; rw [List.foldl_append]; rfl
theorem kyKG : ∀ (L : List κ) (a : List (κ × Bool)), (a.map (·.1)).Nodup -> ((L.foldl (fun a t => kput t true a) a).map (·.1)).Nodup /\ ∀ x, x ∈ (L.foldl (fun a t => kput t true a) a).map (·.1) ↔ x ∈ a.map (·.1) \/ x ∈ L
 | [], a, h => ⟨h, fun x => by simp⟩
 | t :: L, a, h => by
  have hk := zm7 t true a
  have h1 : ((kput t true a).map (·.1)).Nodup := by
   rw [hk]; split
   ·exact h
   ·rename_i hn;refine List.nodup_append.2 ⟨h, by simp, fun x hx y hy e => ?_⟩;simp at hy; subst hy; subst e; exact hn hx
  obtain ⟨i1, i2⟩ := kyKG L (kput t true a) h1;refine ⟨i1, fun x => ?_⟩;show x ∈ (L.foldl (fun a t => kput t true a) (kput t true a)).map (·.1) ↔ _;rw [i2 x, hk];split
  ·rename_i hm;constructor
   ·rintro (h | h)
    ·exact .inl h
    ·exact .inr (List.mem_cons_of_mem _ h)
   ·rintro (h | h)
    ·exact .inl h
    ·rcases List.mem_cons.1 h with rfl | h
     ·exact .inl hm
     ·exact .inr h
  ·rw [List.mem_append, List.mem_singleton, List.mem_cons, or_assoc]
theorem zpT (L : List κ) : ((kyK L).map (·.1)).Nodup /\ ∀ x, x ∈ (kyK L).map (·.1) ↔ x ∈ L := by
 obtain ⟨h1, h2⟩ := kyKG L [] (by simp);exact ⟨h1, fun x => (h2 x).trans (by simp)⟩
theorem zpU (L : List κ) : (kyK L).length <= L.length := by
 have key : ∀ (L : List κ) (a : List (κ × Bool)), (L.foldl (fun a t => kput t true a) a).length <= a.length + L.length := by
  intro L
  induction L with
  | nil => intro a; simp
  | cons t r ih =>
   intro a;have h1 := ih (kput t true a);have h2 : (kput t true a).length <= a.length + 1 := by unfold kput; split <;> simp
   simp only [List.foldl_cons, List.length_cons]; omega
 have := key L [];unfold kyK; simpa using this
end
structure RnJ (n : Nat) (s : Array Nat) : Prop where
 nd : s.toList.Nodup
 lt : ∀ x ∈ s.toList, x < n
theorem zuL (n : Nat) : RnJ n #[] := ⟨by simp, by simp⟩
theorem RnJ.s {n i : Nat} {s : Array Nat} (h : RnJ n s) (hi : i < n) (hc : s.contains i = false) : RnJ n (s.push i) := by
 have hn : i ∉ s.toList := fun hm => by
  have : s.contains i = true := by simpa using hm
  rw [hc] at this; cases this
 refine ⟨?_, fun x hx => ?_⟩
 ·rw [Array.toList_push];refine List.nodup_append.2 ⟨h.nd, by simp, fun x hx y hy e => ?_⟩;simp at hy; subst hy; subst e; exact hn hx
 ·rw [Array.toList_push] at hx;rcases List.mem_append.1 hx with hx | hx
  ·exact h.lt x hx
  ·simp at hx; omega
theorem zlR : ∀ (n : Nat) (L : List Nat), L.Nodup -> (∀ x ∈ L, x < n) -> L.length <= n
 | 0, L, _, h => by
  cases L with
  | nil => simp
  | cons x r => exact absurd (h x (by simp)) (by omega)
 | n + 1, L, h1, h2 => by
  have h3 := zlR n (L.erase n) (h1.erase n) fun x hx => by
   have := h2 x (List.mem_of_mem_erase hx)
   have hne : x ≠ n := fun e => by
    subst e;exact (List.Nodup.not_mem_erase h1) hx
   omega
  have := List.length_erase (a := n) (l := L);split at this <;> omega
theorem RnJ.le {n : Nat} {s : Array Nat} (h : RnJ n s) : s.size <= n := by
 have := zlR n s.toList h.nd h.lt;simpa using this
section
variable {κ : Type} [Inhabited κ]
def ouK (K : List (κ × Bool)) (s : Array Nat) : List κ := s.toList.map fun i => (K.getD i default).1
theorem zuM (K : List (κ × Bool)) : [] = ouK K #[] := rfl
theorem zuN {K : List (κ × Bool)} {s : Array Nat} {i : Nat} {p : κ × Bool} (h : K[i]? = some p) : ouK K s ++ [p.1] = ouK K (s.push i) := by
 unfold ouK; rw [Array.toList_push, List.map_append, List.map_cons, List.map_nil, List.getD_eq_getElem?_getD, h]; rfl
theorem zlS (K : List (κ × Bool)) (s : Array Nat) : (ouK K s).length = s.size := by unfold ouK; simp
theorem zpV [DecidableEq κ] {L : List κ} {s : Array Nat} (h : RnJ (kyK L).length s) (hs : ∀ i, i < (kyK L).length -> s.contains i = true) : (ouK (kyK L) s).Nodup /\ ∀ x, x ∈ ouK (kyK L) s ↔ x ∈ L := by
 obtain ⟨k1, k2⟩ := zpT L;refine ⟨?_, fun x => ?_⟩
 ·unfold ouK;rw [List.Nodup, List.pairwise_map];refine List.Pairwise.imp_of_mem (fun {a b} ha hb hab e => ?_) h.nd;have la := h.lt a ha;have lb := h.lt b hb;rw [List.getD_eq_getElem?_getD, List.getD_eq_getElem?_getD, lgg la, lgg lb] at e;simp only [Option.getD_some] at e;have h1 : ((kyK L).map (·.1))[a]'(by simpa using la) = ((kyK L).map (·.1))[b]'(by simpa using lb) := by simpa using e
  have pw := List.pairwise_iff_getElem.1 k1;rcases Nat.lt_trichotomy a b with h2 | h2 | h2
  ·exact pw a b (by simpa using la) (by simpa using lb) h2 h1
  ·exact hab h2
  ·exact pw b a (by simpa using lb) (by simpa using la) h2 h1.symm
 ·rw [← k2 x];constructor
  ·intro hx;unfold ouK at hx;obtain ⟨i, hi, rfl⟩ := List.mem_map.1 hx;have hl := h.lt i hi;rw [List.getD_eq_getElem?_getD, lgg hl];exact List.mem_map.2 ⟨_, List.getElem_mem hl, rfl⟩
  ·intro hx;obtain ⟨p, hp, rfl⟩ := List.mem_map.1 hx;obtain ⟨i, hi⟩ := List.mem_iff_getElem?.1 hp;have hil := (List.getElem?_eq_some_iff.1 hi).1;unfold ouK;refine List.mem_map.2 ⟨i, by simpa using hs i hil, ?_⟩;rw [List.getD_eq_getElem?_getD, hi]; rfl
end
end Go.Rse
