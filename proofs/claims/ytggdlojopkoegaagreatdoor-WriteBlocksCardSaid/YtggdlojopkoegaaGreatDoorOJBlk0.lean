/-
  Plain: the blocks of beats of whole minims.
-/
import Derived.Test.YtggdlojopkoegaaGreatDoorOJWri5
import Derived.Test.YtggdlojopkoegaaGreatDoorOJWri2
import Derived.Test.YtggdlojopkoegaaGreatDoorOJSpell1
import Derived.Test.YtggdlojopkoegaaGreatDoorOJSlc2
import Derived.Test.YtggdlojopkoegaaGreatDoorOJLev6
import Derived.Test.YtggdlojopkoegaaGreatDoorOLogC
import Derived.Test.YtggdlojopkoegaaGreatDoorOJSortF
import Derived.Test.YtggdlojopkoegaaGreatDoorOLogB
import Derived.Test.YtggdlojopkoegaaGreatDoorOJItem3
import Derived.Test.YtggdlojopkoegaaGreatDoorOJLaw23a
set_option linter.unusedSimpArgs false
set_option linter.unusedVariables false
namespace Go.Rse
open Go Go.Proofs
def adB : Bool := (List.range 401).all fun n => (List.range 12).all fun k => decide (addE ⟨(n : Int), 1⟩ ⟨(k : Int) + 1, 1⟩ = 0) && decide (addV ⟨(n : Int), 1⟩ ⟨(k : Int) + 1, 1⟩ = ⟨(n : Int) + ((k : Int) + 1), 1⟩)
theorem zm2 : adB = true := by kernel_rfl
theorem zjh {n k : Int} (h0 : 0 <= n) (h1 : n <= 400) (k0 : 1 <= k) (k1 : k <= 12) : addE ⟨n, 1⟩ ⟨k, 1⟩ = 0 /\ addV ⟨n, 1⟩ ⟨k, 1⟩ = ⟨n + k, 1⟩ := by
 have h := zm2;unfold adB at h;simp only [List.all_eq_true, Bool.and_eq_true, decide_eq_true_eq] at h;have q := h n.toNat (List.mem_range.2 (by omega)) (k - 1).toNat (List.mem_range.2 (by omega));have e1 : ((n.toNat : Nat) : Int) = n := by omega
 have e2 : (((k - 1).toNat : Nat) : Int) + 1 = k := by omega
 rw [e1, e2] at q;exact q
def whI (m : Mn) (v : Int) : Bool := if v = 1 then decide (1 <= (meU m).N) && decide ((meU m).N <= 1000) && ((List.range 401).all fun n => decide (whB (meU m) ⟨(n : Int), 1⟩ = decide ((n : Int) % (meU m).N = 0))) else true
theorem zm3 : zg7 whI = true := by kernel_rfl
theorem zlq {m : Mn} (hm : ckM m = 0) : 1 <= (meU m).N /\ (meU m).N <= 1000 /\ ∀ n : Int, 0 <= n -> n <= 400 -> whB (meU m) ⟨n, 1⟩ = decide (n % (meU m).N = 0) := by
 have h := zdg zm3 hm (v := 1) (by decide) (by decide);unfold whI at h;rw [if_pos rfl] at h;simp only [List.all_eq_true, Bool.and_eq_true, decide_eq_true_eq] at h;refine ⟨h.1.1, h.1.2, fun n h0 h1 => ?_⟩;have q := h.2 n.toNat (List.mem_range.2 (by omega));rw [show ((n.toNat : Nat) : Int) = n by omega] at q;exact q
def InB (l : List Bt) : Prop := ∀ b ∈ l, ∃ k : Int, 1 <= k /\ k <= 12 /\ b.Dur = ⟨k, 1⟩
def smI : List Bt -> Int
 | [] => 0
 | b :: r => b.Dur.N + smI r
theorem zhA : ∀ (a b : List Bt), smI (a ++ b) = smI a + smI b
 | [], b => by simp [smI]
 | x :: r, b => by show x.Dur.N + smI (r ++ b) = x.Dur.N + smI r + smI b; rw [zhA r b]; omega
theorem zfp : ∀ {l : List Bt}, InB l -> 0 <= smI l /\ smI l <= 12 * l.length
 | [], _ => by simp [smI]
 | b :: r, h => by
  obtain ⟨k, k0, k1, e⟩ := h b (by simp);have ih := zfp (l := r) fun x hx => h x (List.mem_cons_of_mem _ hx)
  have : b.Dur.N = k := by rw [e]
  show 0 <= b.Dur.N + smI r /\ b.Dur.N + smI r <= 12 * ((r.length + 1 : Nat) : Int);omega
theorem InB.app {a b : List Bt} (h : InB (a ++ b)) : InB a /\ InB b := ⟨fun x hx => h x (List.mem_append_left _ hx), fun x hx => h x (List.mem_append_right _ hx)⟩
theorem InB.take {l : List Bt} (h : InB l) (k : Nat) : InB (l.take k) := fun x hx => h x (List.mem_of_mem_take hx)
theorem zis : ∀ {l : List Bt} (n : Int), InB l -> 0 <= n -> n + 12 * l.length <= 400 -> sumF ⟨n, 1⟩ (durB l) = (⟨n + smI l, 1⟩, 0)
 | [], n, _, _, _ => by simp [durB, sumF, smI]
 | b :: r, n, h, h0, h1 => by
  obtain ⟨k, k0, k1, e⟩ := h b (by simp);simp only [List.length_cons] at h1;have q := zjh h0 (by omega) k0 k1;show (if addE ⟨n, 1⟩ b.Dur = 0 then sumF (addV ⟨n, 1⟩ b.Dur) (durB r) else _) = _;rw [e, if_pos q.1, q.2, zis (n + k) (fun x hx => h x (List.mem_cons_of_mem _ hx)) (by omega) (by omega)];have : b.Dur.N = k := by rw [e]
  simp only [smI, this];rw [Int.add_assoc]
def fiB : Bool := (List.range 12).all fun k => decide (ckT ⟨(k : Int) + 1, 1⟩ = 0)
theorem zm4 : fiB = true := by kernel_rfl
theorem zg0 : ∀ {l : List Bt}, InB l -> yT (durB l) = 0
 | [], _ => rfl
 | b :: r, h => by
  obtain ⟨k, k0, k1, e⟩ := h b (by simp);have q := zm4;unfold fiB at q;simp only [List.all_eq_true, decide_eq_true_eq] at q;have q2 := q (k - 1).toNat (List.mem_range.2 (by omega));rw [show (((k - 1).toNat : Nat) : Int) + 1 = k by omega] at q2;show (if ckT b.Dur = 0 then yT (durB r) else _) = 0;rw [e, if_pos q2];exact zg0 fun x hx => h x (List.mem_cons_of_mem _ hx)
theorem zjS {l : List Bt} (h : InB l) (hl : l.length <= 30) : sumE (durB l) = 0 /\ sumV (durB l) = ⟨smI l, 1⟩ := by
 have q := zis 0 h (by omega) (by omega);have f := zg0 h;unfold sumE sumV;rw [if_pos f, if_pos f, q];exact ⟨rfl, by simp⟩
theorem zji {u : Tm} : ∀ {l K : List Bt}, InB (K ++ l) -> K.length + l.length <= 30 -> bkE u ⟨smI K, 1⟩ l = 0
 | [], K, _, _ => rfl
 | b :: r, K, h, hl => by
  obtain ⟨k, k0, k1, e⟩ := h b (by simp);have rk := zfp h.app.1;simp only [List.length_cons] at hl;have q := zjh rk.1 (by omega) k0 k1;show (if addE ⟨smI K, 1⟩ b.Dur = 0 then bkE u (if whB u (addV ⟨smI K, 1⟩ b.Dur) then ⟨0, 1⟩ else addV ⟨smI K, 1⟩ b.Dur) r else _) = 0;rw [e, if_pos q.1, q.2];split
  ·exact zji (K := []) (u := u) (fun x hx => h x (by simp at hx ⊢; exact .inr (.inr hx))) (by simp; omega)
  ·have := zji (u := u) (l := r) (K := K ++ [b]) (by rw [List.append_assoc]; exact h) (by simp; omega);rw [zhA] at this;simpa [smI, e] using this
structure BkG (u : Int) (R : List (List Bt)) (l : List Bt) : Prop where
 fl : R.flatten = l
 bl : ∀ i B, R[i]? = some B -> B ≠ [] /\ (∀ k, 1 <= k -> k < B.length -> ¬ smI (B.take k) % u = 0) /\ (smI B % u = 0 \/ i + 1 = R.length)
theorem zpC {m : Mn} (hm : ckM m = 0) : ∀ {l K : List Bt}, InB (K ++ l) -> K.length + l.length <= 30 -> (∀ k, 1 <= k -> k <= K.length -> ¬ smI (K.take k) % (meU m).N = 0) -> BkG (meU m).N (bkV (meU m) ⟨smI K, 1⟩ K l) (K ++ l)
 | [], K, h, hl, hK => by
  show BkG _ (if K = [] then [] else [K]) _;split
  ·rename_i e; subst e; exact ⟨rfl, fun i B h => by simp at h⟩
  ·rename_i e;refine ⟨by simp, fun i B hB => ?_⟩;cases i with
   | zero => simp at hB; subst hB; exact ⟨e, fun k k0 k1 => hK k k0 (by omega), .inr rfl⟩
   | succ i => simp at hB
 | b :: r, K, h, hl, hK => by
  obtain ⟨k, k0, k1, e⟩ := h b (by simp);have rk := zfp h.app.1;simp only [List.length_cons] at hl;have q := zjh rk.1 (by omega) k0 k1;obtain ⟨u0, u1, hw⟩ := zlq hm;have e2 : smI (K ++ [b]) = smI K + k := by rw [zhA]; simp [smI, e]
  have hw2 := hw (smI K + k) (by omega) (by omega);show BkG _ (if whB (meU m) (addV ⟨smI K, 1⟩ b.Dur) then (K ++ [b]) :: bkV (meU m) ⟨0, 1⟩ [] r else bkV (meU m) (addV ⟨smI K, 1⟩ b.Dur) (K ++ [b]) r) _;rw [e, q.2]
  have hpre : ∀ j, 1 <= j -> j <= K.length -> ¬ smI ((K ++ [b]).take j) % (meU m).N = 0 := fun j j0 j1 => by
   rw [List.take_append_of_le_length j1]; exact hK j j0 j1
  split
  ·rename_i hc;rw [hw2, decide_eq_true_iff] at hc;obtain ⟨g1, g2⟩ := zpC hm (l := r) (K := []) (fun x hx => h x (by simp at hx ⊢; exact .inr (.inr hx))) (by simp; omega) (fun j j0 j1 => by simp at j1; omega);have g1 : (bkV (meU m) ⟨0, 1⟩ [] r).flatten = r := g1;refine ⟨by rw [List.flatten_cons, g1]; simp, fun i B hB => ?_⟩;cases i with
   | zero =>
    simp at hB; subst hB;exact ⟨by simp, fun j j0 j1 => hpre j j0 (by simp at j1; omega), .inl (by rw [e2]; exact hc)⟩
   | succ i =>
    obtain ⟨x1, x2, x3⟩ := g2 i B (show (bkV (meU m) ⟨0, 1⟩ [] r)[i]? = some B by simpa using hB);refine ⟨x1, x2, x3.imp id fun y => ?_⟩;rw [List.length_cons];have y : i + 1 = (bkV (meU m) ⟨0, 1⟩ [] r).length := y;omega
  ·rename_i hc;rw [hw2, decide_eq_true_iff] at hc
   have g := zpC hm (l := r) (K := K ++ [b]) (by rw [List.append_assoc]; exact h) (by simp; omega) (fun j j0 j1 => by
    by_cases hj : j <= K.length
    ·exact hpre j j0 hj
    ·have : j = (K ++ [b]).length := by simp at j1 ⊢; omega
     rw [this, List.take_length, e2]; exact hc)
   rw [e2, List.append_assoc] at g;exact g
end Go.Rse
namespace Go.Rse
open Go Go.Proofs
end Go.Rse
namespace Go.Rse
open Go Go.Proofs Go.RowKit
section
variable {P : Program} {C : Ctx} {st : St} {ty : TypeId}
end
attribute [local irreducible] Pur yz yA Ex X Fn Imp LeV LeB FnO It yE
attribute [local irreducible] yR sumE sumV mMk
end Go.Rse
namespace Go.Rse
open Go Go.Proofs
attribute [local irreducible] Pur yz yA Ex X Fn Imp LeV LeB FnO It yE
attribute [local irreducible] yR durT mulV mulE subV subE
end Go.Rse
namespace Go.Rse
end Go.Rse
namespace Go.Rse
open Go Go.Proofs Go.Sort
end Go.Rse
namespace Go.Rse
open Go Go.Proofs
attribute [local irreducible] Pur yz yA Ex X Fn Imp LeV LeB FnO It yE
attribute [local irreducible] yR durT mulV wdL
end Go.Rse
namespace Go.Rse
open Go Go.Proofs Go.RowKit
attribute [local irreducible] Pur yz yA Ex X Fn Imp LeV LeB FnO It yE
attribute [local irreducible] wdL
end Go.Rse
namespace Go.Rse
open Go Go.Proofs Go.RowKit
attribute [local irreducible] Pur yz yA Ex X Fn Imp LeV LeB FnO It yE
attribute [local irreducible] yR durT mulV wdL allE bthE alO alI mMk gI
end Go.Rse
namespace Go.Rse
open Go Go.Proofs
attribute [local irreducible] Pur yz yA Ex X Fn Imp LeV LeB FnO It yE
attribute [local irreducible] cmpV
end Go.Rse
namespace Go.Rse
open Go Go.Proofs
attribute [local irreducible] Pur yz yA Ex X Fn Imp LeV LeB FnO It yE
attribute [local irreducible] cmpV subV yR
end Go.Rse
namespace Go.Rse
open Go Go.Proofs
attribute [local irreducible] Pur yz yA Ex X Fn Imp LeV LeB FnO It yE
attribute [local irreducible] cmpV subV yR tmkT durT
end Go.Rse
namespace Go.Rse
open Go Go.Proofs
attribute [local irreducible] Pur yz yA Ex X Fn Imp LeV LeB FnO It yE
attribute [local irreducible] cmpV subV yR tmkT durT wdL alO alI allE bthE
end Go.Rse
namespace Go.Rse
open Go Go.Proofs
attribute [local irreducible] Pur yz yA Ex X Fn Imp LeV LeB FnO It yE FnW FnOW FnP FnD
attribute [local irreducible] wcE btF btC ckT ckM allE bthE frV wcnE wcnV fmV
end Go.Rse
namespace Go.Rse
open Go Go.Proofs
attribute [local irreducible] Pur yz yA Ex X Fn Imp LeV LeB FnO It yE FnW FnOW FnP FnD
attribute [local irreducible] wcE frV fmV wcnE wcnV durB
theorem zcB (l : List Bt) (hl : l.length <= 4000000000) : Fn Tryz.prog 49 [btsA l] (tmsA (durB l)) := by
 have hz0 : [] = durB (l.take 0) := by unfold durB; rfl
 refine Fn.go Tryz.func49 Tryz.ntmps49 (fun g w d => ?_);apply yb;refine ya ?_;apply yj;refine ye ?_;iterate 2 apply yd
 refine X.imp (y9 tmE 40 2 3 30 rfl rfl) ?_;apply yc;refine ye ?_;apply X.block
 refine zj (ι := Nat) (fun (k : Nat) => [(0, btsA l), (3, .own 30), (4, iv (k : Int))]) (fun (k : Nat) => [(30, .row tmE (durB (l.take k)) 40 2)]) (fun (k : Nat) => k <= l.length) (fun (k : Nat) => l.length - k) 0 (fun k hk => ?_) (h0 := by
  exact yq)
 apply yd;apply yb;refine z6 ?_;refine yk rfl ?_ ?_<;>intro hc1
 ·obtain ⟨b, hb⟩ : ∃ b, l[k]? = some b := ⟨_, lgg (by omega)⟩;have hb2 : l[(k : Int).toNat]? = some b := by simpa using hb
  have hst := zmo hb;have hlt : (durB (l.take k)).length <= l.length := by rw [zgb, List.length_take]; omega
  apply yf;apply yd;apply X.block;apply yc;iterate 6 refine ya ?_
  refine yQ tmE [b.Dur] ?_;refine Ex.mo ?_;refine ye ?_;apply yc;refine yo ?_;refine yL (k + 1) (hI := yq)
 ·obtain rfl : k = l.length := by omega
  have hV : durB (l.take l.length) = durB l := by rw [List.take_length]
  apply X.exit;apply yb;refine yg ?_;refine X.ret ?_;refine RetQ.imp (Imp.freeze (k := 30) rfl) ?_;refine yh ?_;all_goals (exact congrArg (fun z => tmsA z) hV)
end Go.Rse
namespace Go.Rse
open Go Go.Proofs
def bb1 (x : Int) : Bt := bt1 (1 + x % 12)
def bbL (nums : List Int) (k : Nat) : List Bt := (nums.take k).map bb1
theorem zqY {nums : List Int} {k : Nat} {x : Int} (h : nums[k]? = some x) : bbL nums k ++ [bb1 x] = bbL nums (k + 1) := by
 unfold bbL; rw [List.take_add_one, h]; simp
theorem zfq (nums : List Int) (k : Nat) : (bbL nums k).length <= k := by unfold bbL; rw [List.length_map, List.length_take]; omega
def btB : Bool := (List.range 12).all fun k => decide ((bt1 ((k : Int) + 1)).Dur = ⟨(k : Int) + 1, 1⟩) && decide (btC (bt1 ((k : Int) + 1)) = 0)
theorem zm5 : btB = true := by kernel_rfl
theorem zoV (nums : List Int) (k : Nat) : InB (bbL nums k) /\ ∀ b ∈ bbL nums k, btC b = 0 := by
 have key : ∀ b ∈ bbL nums k, (∃ d : Int, 1 <= d /\ d <= 12 /\ b.Dur = ⟨d, 1⟩) /\ btC b = 0 := fun b hb => by
  unfold bbL at hb;obtain ⟨x, -, rfl⟩ := List.mem_map.1 hb;have h0 := Int.emod_nonneg x (show (12 : Int) ≠ 0 by decide);have h1 := Int.emod_lt_of_pos x (show (0 : Int) < 12 by decide);have q := zm5;unfold btB at q;simp only [List.all_eq_true, Bool.and_eq_true, decide_eq_true_eq] at q;have q2 := q (x % 12).toNat (List.mem_range.2 (by omega));rw [show (((x % 12).toNat : Nat) : Int) + 1 = 1 + x % 12 by omega] at q2;exact ⟨⟨1 + x % 12, by omega, by omega, q2.1⟩, q2.2⟩
 exact ⟨fun b hb => (key b hb).1, fun b hb => (key b hb).2⟩
theorem zqZ {m : Mn} (hm : ckM m = 0) {nums : List Int} {k : Nat} (hk : k <= 30) : blE m (bbL nums k) = 0 /\ BkG (meU m).N (blV m (bbL nums k)) (bbL nums k) := by
 obtain ⟨h1, h2⟩ := zoV nums k;have hl := zfq nums k;have hw : wcE m (bbL nums k) = 0 := by unfold wcE; rw [if_pos hm]; exact zkj.2 h2
 have e : blE m (bbL nums k) = 0 := by
  unfold blE; rw [if_pos hw];exact zji (K := []) (by simpa using h1) (by simp; omega)
 refine ⟨e, ?_⟩;unfold blV; rw [if_pos e];exact zpC hm (K := []) (by simpa using h1) (by simp; omega) (fun j j0 j1 => by simp at j1; omega)
def mvJ (m : Mn) : Nat -> Int
 | 0 => 3
 | j + 1 => if m.p (4 - (j : Int)) = 3 then 4 - (j : Int) else mvJ m j
def mvB (m : Mn) (v : Int) : Bool := decide (mvJ m 4 = meV m)
theorem zm6 : zg7 mvB = true := by kernel_rfl
theorem zpD {m : Mn} (hm : ckM m = 0) : mvJ m 4 = meV m := by
 have := zdg zm6 hm (v := 1) (by decide) (by decide);unfold mvB at this; simpa using this
theorem zq0 {m : Mn} {j : Nat} (h : m.p (4 - (j : Int)) = 3) : 4 - (j : Int) = mvJ m (j + 1) := by
 show _ = (if m.p (4 - (j : Int)) = 3 then 4 - (j : Int) else mvJ m j); rw [if_pos h]
theorem zq1 {m : Mn} {j : Nat} (h : ¬ m.p (4 - (j : Int)) = 3) : mvJ m j = mvJ m (j + 1) := by
 show _ = (if m.p (4 - (j : Int)) = 3 then 4 - (j : Int) else mvJ m j); rw [if_neg h]
theorem zq2 {R : List (List Bt)} {i : Nat} {B : List Bt} (h : R[i]? = some B) : (R.take i).flatten ++ B = (R.take (i + 1)).flatten := by
 rw [List.take_add_one, h]; simp
theorem zoW {R : List (List Bt)} {L : List Bt} (h : R.flatten = L) (i : Nat) : (R.take i).flatten.length <= L.length := by
 have : (R.take i).flatten ++ (R.drop i).flatten = L := by rw [← List.flatten_append, List.take_append_drop, h]
 rw [← this, List.length_append]; omega
theorem zq3 {R : List (List Bt)} {L : List Bt} (h : R.flatten = L) {i : Nat} {B : List Bt} (hB : R[i]? = some B) : B.length <= L.length /\ ∀ b ∈ B, b ∈ L := by
 refine ⟨?_, fun b hb => by rw [← h]; exact List.mem_flatten.2 ⟨B, List.mem_of_getElem? hB, hb⟩⟩;have h1 := zoW h (i + 1);rw [← zq2 hB, List.length_append] at h1; omega
theorem zq4 {R : List (List Bt)} {L : List Bt} (h : R.flatten = L) (hn : ∀ B ∈ R, B ≠ []) : R.length <= L.length := by
 subst h
 induction R with
 | nil => simp
 | cons B r ih =>
  have h1 := List.length_pos_iff.2 (hn B (by simp));have h2 := ih fun x hx => hn x (List.mem_cons_of_mem _ hx)
  simp only [List.flatten_cons, List.length_append, List.length_cons]; omega
theorem zq5 {u : Int} {B : List Bt} {k i n : Nat} (hs : 0 <= smI (B.take (k : Int).toNat)) (h1 : 1 <= k) (hk : k <= B.length) (b2 : ∀ k, 1 <= k -> k < B.length -> ¬ smI (B.take k) % u = 0) (b3 : smI B % u = 0 \/ i + 1 = n)
 (h : (decide ((smI (B.take (k : Int).toNat)).tmod u = 0) == decide ((k : Int) = (B.length : Int))) = false /\ ((smI (B.take (k : Int).toNat)).tmod u = 0 \/ (i : Int) + 1 < (n : Int))) : False := by
 rw [Int.tmod_eq_emod_of_nonneg hs, Int.toNat_natCast] at h;obtain ⟨w1, w2⟩ := h;by_cases hkl : k = B.length
 ·subst hkl;rw [List.take_length] at w1 w2;have w3 : ¬ smI B % u = 0 := by intro e; rw [decide_eq_true e, decide_eq_true rfl] at w1; exact absurd w1 (by decide)
  rcases w2 with w | w
  ·exact w3 w
  ·rcases b3 with b | b
   ·exact w3 b
   ·omega
 ·have nb := b2 k h1 (by omega);rw [decide_eq_false nb, decide_eq_false (by omega)] at w1;exact absurd w1 (by decide)
attribute [local irreducible] Pur yz yA Ex X Fn Imp LeV LeB FnO It yE FnW FnOW FnP FnD
attribute [local irreducible] bt1 bb1 bbL blE blV meV yR mMk mvJ durB sumE sumV smI
set_option maxHeartbeats 4000000 in
set_option maxRecDepth 100000 in
theorem C_tactuslaw23_WriteBlocks (n : Int) (nums : List Int) (hn : -9223372036854775808 <= n /\ n <= 9223372036854775807) (hr : ∀ x, x ∈ nums -> -9223372036854775808 <= x /\ x <= 9223372036854775807) (hnl : nums.length <= maxLen) : Fn Tryz.prog 10 [iv n, yl nums] (.bool true) := by
 have hm := zeF n hn;have hM := zpW n;generalize mMk n = m at hm hM;have hz0 : [] = bbL nums 0 := by unfold bbL; simp
 have hv0 : (3 : Int) = mvJ m 0 := by unfold mvJ; rfl
 have hv4 := zpD hM;have hrg := zlq hM;have hmr := zmr hM;refine Fn.go Tryz.func10 Tryz.ntmps10 (fun g w d => ?_);apply yb;refine ya ?_;apply yj;refine ym zbT ?_;refine ya ?_;apply yj;refine ya ?_;refine ym hm ?_;refine yC ?_;refine Ex.mo ?_;apply yj;refine ye ?_;iterate 2 apply yd
 refine X.imp (y9 btE 42 3 7 30 rfl rfl) ?_;apply yc;refine ye ?_;apply X.block
 refine zj (ι := Nat) (fun (i : Nat) => [(1, yl nums), (5, .bool true), (6, .ptr 6 0 0 0), (7, .own 30), (8, iv (i : Int))]) (fun (i : Nat) => [(6, .box (mnE m) 23), (30, .row btE (bbL nums i) 42 3)]) (fun (i : Nat) => i <= nums.length /\ i <= 30) (fun (i : Nat) => nums.length - i) 0 (fun i hk => ?_) (hJ := by
  exact ⟨by omega, by omega⟩) (h0 := by
  exact yq)
 obtain ⟨hk1, hk2⟩ := hk;apply yd;apply yb;iterate 4 refine ya ?_
 refine ExF.at 4 ?_;refine yO ?_;iterate 2 refine ExF.gi ?_
 refine yF ?_;refine ye ?_;refine yk rfl ?_ ?_<;>intro hc1
 ·obtain ⟨x, hx⟩ : ∃ x, nums[i]? = some x := ⟨_, lgg (by omega)⟩;have hx2 : nums[(i : Int).toNat]? = some x := by simpa using hx
  have hx0 := Int.emod_nonneg x (show (12 : Int) ≠ 0 by decide);have hx1 := Int.emod_lt_of_pos x (show (0 : Int) < 12 by decide);have hst0 := zqY hx;have hst : bbL nums i ++ [⟨⟨(1 + x % 12) / gI (1 + x % 12) 1, 1 / gI (1 + x % 12) 1⟩, false⟩] = bbL nums (i + 1) := by rw [← hst0]; unfold bb1 bt1; rfl
  have hlt := zfq nums i;apply yf;apply yd;apply X.block;apply yc;iterate 5 refine ya ?_
  refine ym (zcw x 12 (hr x (List.mem_of_getElem? hx)) (by decide)) ?_;refine ya ?_;refine ym (zbU (1 + x % 12) 1 (by omega) (by decide)) ?_;refine ya ?_;refine yQ btE [⟨⟨(1 + x % 12) / gI (1 + x % 12) 1, 1 / gI (1 + x % 12) 1⟩, false⟩] ?_;refine Ex.mo ?_;refine ye ?_;apply yc;refine yo ?_
  refine yL (i + 1) (hJ := by
   exact ⟨by omega, by omega⟩) (hI := yq)
 ·apply X.exit;apply yd;refine X.imp (st' := ⟨[(5, .bool true), (6, .ptr 6 0 0 0), (7, btsA (bbL nums i))], [(6, .box (mnE m) 23)]⟩) ((Imp.freeze (k := 30) rfl).trans yn) ?_;obtain ⟨i0, hi0⟩ : ∃ i0, i0 = i := ⟨i, rfl⟩;have hi3 : i0 <= 30 := by omega
  rw [← hi0];clear hc1 hi0;have hbl := zqZ (nums := nums) hM hi3;obtain ⟨q1, q2⟩ := hbl;have hBl := zcR m (bbL nums i0) (by have := zfq nums i0; omega);rw [q1] at hBl;have hin := (zoV nums i0).1;have hll := zfq nums i0;generalize blV m (bbL nums i0) = R at hBl q2;have hRl := zq4 q2.fl (fun B hB => by obtain ⟨i, hi⟩ := List.mem_iff_getElem?.1 hB; exact (q2.bl i B hi).1);apply yc;iterate 2 refine ya ?_
  refine ym hBl ?_;refine zw ?_;apply yd;apply yb;refine yg ?_;refine yk rfl ?_ ?_<;>intro hc2
  ·simp at hc2
  apply yf;apply yb;refine ye ?_;apply yd;apply yb;refine ye ?_;apply X.block
  refine zj (ι := Nat) (fun (j : Nat) => [(5, .bool true), (6, .ptr 6 0 0 0), (7, btsA (bbL nums i0)), (9, blsA R), (11, iv (mvJ m j)), (12, iv (4 - (j : Int)))]) (fun (j : Nat) => [(6, .box (mnE m) 23)]) (fun (j : Nat) => j <= 4) (fun (j : Nat) => 4 - j) 0 (fun j hk => ?_) (h0 := by
   exact yq)
  apply yd;apply yb;refine yg ?_;refine yk rfl ?_ ?_<;>intro hc3
  ·apply yf;apply yd;apply X.block;apply yb;(iterate 2 refine ya ?_);refine ym (zd5 m (4 - (j : Int))) ?_;refine ye ?_;refine yk rfl ?_ ?_<;>intro hc4
   ·have hst := zq0 hc4;apply yc;refine yg ?_;apply yc;refine yo ?_;refine yL (j + 1) (hI := yq)
   ·have hst := zq1 hc4;apply yf;apply yc;refine yo ?_;refine yL (j + 1) (hI := yq)
  ·obtain rfl : j = 4 := by omega
   have hFu : Fn Tryz.prog 51 [mnA m, iv (mvJ m 4)] (.tup [tmA (meU m), iv 0]) := by rw [hv4]; exact zdz hM hmr.1 (by omega)
   apply X.exit;apply yb;(iterate 2 refine ya ?_);refine ym hFu ?_;(iterate 3 refine ya ?_);refine yC ?_;refine Ex.mo ?_;refine ya ?_;apply yj;refine ye ?_;(iterate 2 apply yd);refine X.imp (y9 btE 42 3 15 31 rfl rfl) ?_;apply yc;refine ye ?_;apply X.block
   refine zj (ι := Nat) (fun (i : Nat) => [(5, .bool true), (7, btsA (bbL nums i0)), (9, blsA R), (13, .ptr 13 0 0 0), (15, .own 31), (16, iv (i : Int))]) (fun (i : Nat) => [(13, .box (tmE (meU m)) 40), (31, .row btE ((R.take i).flatten) 42 3)]) (fun (i : Nat) => i <= R.length) (fun (i : Nat) => R.length - i) 0 (fun i hk => ?_) (h0 := by
    exact yq)
   apply yd;apply yb;refine z6 ?_;refine yk rfl ?_ ?_<;>intro hc5
   ·obtain ⟨B, hB⟩ : ∃ B, R[i]? = some B := ⟨_, lgg (by omega)⟩;have hB2 : R[(i : Int).toNat]? = some B := by simpa using hB
    have hZ1 := q2.bl i B hB;obtain ⟨b1, b2, b3⟩ := hZ1;have hZ2 := zq3 q2.fl hB;obtain ⟨b4, b5⟩ := hZ2;have hst := zq2 hB;have hlt := zoW q2.fl i;have hBin : InB B := fun b hb => hin b (b5 b hb)
    apply yf;apply yd;apply X.block;apply yb;(iterate 5 refine ya ?_);refine Ex.mo ?_;refine ya ?_;apply yj;refine ye ?_;apply X.block
    refine zj (ι := Nat) (fun (k : Nat) => [(5, .bool true), (7, btsA (bbL nums i0)), (9, blsA R), (13, .ptr 13 0 0 0), (15, .own 31), (16, iv (i : Int)), (17, iv (k : Int))]) (fun (k : Nat) => [(13, .box (tmE (meU m)) 40), (31, .row btE ((R.take (i + 1)).flatten) 42 3)]) (fun (k : Nat) => 1 <= k /\ k <= B.length + 1) (fun (k : Nat) => B.length + 1 - k) 1 (fun k hk => ?_) (hJ := by
     exact ⟨by omega, by omega⟩) (h0 := by
     exact yq)
    obtain ⟨hk1, hk2⟩ := hk;apply yd;apply yb;(iterate 6 refine ya ?_);refine ye ?_;refine yk rfl ?_ ?_<;>intro hc6
    ·have hsr := zfp (hBin.take (k : Int).toNat);have hsl : (B.take (k : Int).toNat).length <= 30 := by rw [List.length_take]; omega
     have hSum := zf0 (durB (B.take (k : Int).toNat)) (by rw [zgb]; omega);rw [(zjS (hBin.take (k : Int).toNat) hsl).1, (zjS (hBin.take (k : Int).toNat) hsl).2] at hSum;apply yf;apply yd;apply X.block;apply yb;iterate 5 refine ya ?_
     first
      | refine zD (zcs rfl rfl rfl sl24 ty42 (by omega) (by omega)) rfl ?_
      | refine zD (zc9 rfl rfl sl24 ty42 (fun _ => rfl) (by omega) (by omega)) rfl ?_
     refine ym (zcB (B.take (k : Int).toNat) (by rw [List.length_take]; omega)) ?_;refine ym hSum ?_;(iterate 3 refine ya ?_);refine yC ?_;refine Ex.mo ?_;refine ye ?_;apply yd;apply yb;(iterate 2 refine ya ?_);refine ExF.at 2 ?_;refine yO ?_;(iterate 3 refine ExF.gi ?_);refine yF ?_;refine ye ?_;refine yk rfl ?_ ?_<;>intro hc7
     ·simp at hc7
     apply yf;apply yb;(iterate 7 refine ya ?_);apply yj;(iterate 9 refine ya ?_);refine ExF.at 9 ?_;refine yO ?_;(iterate 8 refine ExF.gi ?_);refine yF ?_;refine ye ?_;refine yk rfl ?_ ?_<;>intro hc8
     ·exact (zq5 hsr.1 hk1 (by omega) b2 b3 hc8).elim
     apply yf;apply yc;refine yo ?_
     refine yL (k + 1) (hJ := by
      exact ⟨by omega, by omega⟩) (hI := yq)
    ·apply X.exit;apply yc;refine yo ?_;refine yL (i + 1) (hI := yq)
   ·obtain rfl : i = R.length := by omega
    have hfl : (R.take R.length).flatten = (bbL nums i0) := by rw [List.take_length]; exact q2.fl
    apply X.exit;apply yd;refine X.imp (st' := ⟨[(5, .bool true), (7, btsA (bbL nums i0)), (15, .own 31)], [(31, .row btE (bbL nums i0) 42 3)]⟩) yq ?_;refine X.imp (st' := ⟨[(5, .bool true), (7, btsA (bbL nums i0)), (15, btsA (bbL nums i0))], []⟩) ((Imp.freeze (k := 31) rfl).trans yn) ?_;apply yc;refine ya ?_;refine ExF.at 1 ?_;refine yO ?_;(iterate 2 refine ExF.gi ?_);refine ExF.cg (zbq (bbL nums i0) (bbL nums i0) (by omega)) ?_;refine yF ?_;refine yg ?_;refine X.ret ?_;refine yh ?_;all_goals (first | rfl | simp)
end Go.Rse
