/-
  Walks: what statements share: comparisons of lists, lists in new memory, numbers made small, mensurations and times made of numbers.
-/
import Derived.Test.YtfiiobachmglpaaGreatDoorFJTime
import Derived.Test.YtfiiobachmglpaaGreatDoorFMens2
import Derived.Test.YtfiiobachmglpaaGreatDoorFLogB
import Derived.Test.YtfiiobachmglpaaGreatDoorFLogC
import Derived.Test.YtfiiobachmglpaaGreatDoorFIteA
import Derived.Test.YtfiiobachmglpaaGreatDoorFDotB
import Derived.Test.YtfiiobachmglpaaGreatDoorFRefA
import Derived.Test.YtfiiobachmglpaaGreatDoorFDurA
set_option linter.unusedSimpArgs false
set_option linter.unusedVariables false
namespace Go.Rse
open Go Go.Proofs
attribute [local irreducible] Pur yK yM Ex X Fn Imp LeV LeB FnO It yW
theorem zfU {α : Type} {a b : List α} {k : Nat} {x : α} (ha : a[k]? = some x) (hb : b[k]? = some x) (h : a.take k = b.take k) : a.take (k + 1) = b.take (k + 1) := by
 rw [List.take_add_one, List.take_add_one, ha, hb, h]
theorem ziM {α : Type} {a b : List α} {k : Nat} (hl : a.length = b.length) (hk : a.length <= k) (h : a.take k = b.take k) : a = b := by
 rwa [List.take_of_length_le hk, List.take_of_length_le (by omega)] at h
theorem zmL {α : Type} {a b : List α} {k : Nat} {x y : α} (ha : a[k]? = some x) (hb : b[k]? = some y) (h : x ≠ y) : a ≠ b := fun e => by
 subst e; rw [ha] at hb; injection hb with hb; exact h hb
theorem zn8 {l : List Int} {x : Int} (h : ∀ (i : Nat) u, i < l.length -> l[i]? = some u -> ¬ u = x) : ¬ x ∈ l := fun hx => by
 obtain ⟨i, hi⟩ := List.mem_iff_getElem?.1 hx;exact h i x (List.getElem?_eq_some_iff.1 hi).1 hi rfl
attribute [local irreducible] gI
theorem zas (a b : List Int) (hl : a.length <= 4000000000) : Fn Tryz.prog 22 [yg a, yg b] (.bool (decide (a = b))) := by
 refine Fn.go Tryz.func22 Tryz.ntmps22 (fun g w d => ?_);apply yb;refine ye ?_;apply yd;apply yb;refine y4 ?_;refine yk rfl ?_ ?_<;>intro hc1
 ·apply yb;refine ye ?_;refine X.ret ?_;refine ym ?_;all_goals (congr 1; exact (decide_eq_false fun e => by subst e; omega).symm)
 apply yf;apply yd;apply yb;refine ye ?_;apply X.block
 refine y9 (ι := Nat) (fun (k : Nat) => [(0, yg a), (1, yg b), (5, iv (k : Int))]) (fun (k : Nat) => []) (fun (k : Nat) => k <= a.length /\ a.take k = b.take k) (fun (k : Nat) => a.length - k) 0 (fun k hk => ?_) (hJ := by
  exact ⟨by omega, rfl⟩)
 obtain ⟨hk1, hk2⟩ := hk;apply yd;apply yb;refine yX ?_;refine yk rfl ?_ ?_<;>intro hc2
 ·obtain ⟨x, hx⟩ : ∃ x, a[k]? = some x := ⟨_, lgg (by omega)⟩;have hx2 : a[(k : Int).toNat]? = some x := by simpa using hx
  obtain ⟨y, hy⟩ : ∃ y, b[k]? = some y := ⟨_, lgg (by omega)⟩;have hy2 : b[(k : Int).toNat]? = some y := by simpa using hy
  apply yf;apply yd;apply X.block;apply yd;refine zi [17,18,19,20,21,22,23,24,25] [0,0,3,7,0,0,48,112,255] mo ?_;iterate 9 refine yj ?_
  refine yR ?_;apply Ex.nil;refine yk rfl ?_ ?_<;>intro hc3
  ·apply yb;refine ye ?_;refine X.ret ?_;refine ym ?_;all_goals (congr 1; exact (decide_eq_false (zmL hx hy (by simpa using hc3))).symm)
  apply yf;apply yc;refine yp ?_
  refine yL (k + 1) (hJ := by
   exact ⟨by omega, zfU hx (by rw [hy]; congr 1; first | exact (by simpa using hc3 : x = y).symm | (simp at hc3; exact hc3.symm)) hk2⟩)
 ·apply X.exit;apply yb;refine ye ?_;refine X.ret ?_;refine ym ?_;all_goals (congr 1; exact (decide_eq_true (ziM (by omega) (by omega) hk2)).symm)
theorem zah (a b : List Tm) (hl : a.length <= 4000000000) : Fn Tryz.prog 41 [tmsA a, tmsA b] (.bool (decide (a = b))) := by
 refine Fn.go Tryz.func41 Tryz.ntmps41 (fun g w d => ?_);apply yb;refine ye ?_;apply yd;apply yb;refine y4 ?_;refine yk rfl ?_ ?_<;>intro hc1
 ·apply yb;refine ye ?_;refine X.ret ?_;refine ym ?_;all_goals (congr 1; exact (decide_eq_false fun e => by subst e; omega).symm)
 apply yf;apply yd;apply yb;refine ye ?_;apply X.block
 refine y9 (ι := Nat) (fun (k : Nat) => [(0, tmsA a), (1, tmsA b), (5, iv (k : Int))]) (fun (k : Nat) => []) (fun (k : Nat) => k <= a.length /\ a.take k = b.take k) (fun (k : Nat) => a.length - k) 0 (fun k hk => ?_) (hJ := by
  exact ⟨by omega, rfl⟩)
 obtain ⟨hk1, hk2⟩ := hk;apply yd;apply yb;refine yX ?_;refine yk rfl ?_ ?_<;>intro hc2
 ·obtain ⟨x, hx⟩ : ∃ x, a[k]? = some x := ⟨_, lgg (by omega)⟩;have hx2 : a[(k : Int).toNat]? = some x := by simpa using hx
  obtain ⟨y, hy⟩ : ∃ y, b[k]? = some y := ⟨_, lgg (by omega)⟩;have hy2 : b[(k : Int).toNat]? = some y := by simpa using hy
  apply yf;apply yd;apply X.block;apply yd;refine zi [17,18,19,20,21,22,23,24,25] [0,0,3,7,0,0,48,112,255] mo ?_;iterate 9 refine yj ?_
  refine yR ?_;apply Ex.nil;refine yk rfl ?_ ?_<;>intro hc3
  ·apply yb;refine ye ?_;refine X.ret ?_;refine ym ?_;all_goals (congr 1; exact (decide_eq_false (zmL hx hy (by simpa using hc3))).symm)
  apply yf;apply yc;refine yp ?_
  refine yL (k + 1) (hJ := by
   exact ⟨by omega, zfU hx (by rw [hy]; congr 1; first | exact (by simpa using hc3 : x = y).symm | (simp at hc3; exact hc3.symm)) hk2⟩)
 ·apply X.exit;apply yb;refine ye ?_;refine X.ret ?_;refine ym ?_;all_goals (congr 1; exact (decide_eq_true (ziM (by omega) (by omega) hk2)).symm)
theorem zdo (a b : List Sg) (hl : a.length <= 4000000000) : Fn Tryz.prog 44 [sgsA a, sgsA b] (.bool (decide (a = b))) := by
 refine Fn.go Tryz.func44 Tryz.ntmps44 (fun g w d => ?_);apply yb;refine ye ?_;apply yd;apply yb;refine y4 ?_;refine yk rfl ?_ ?_<;>intro hc1
 ·apply yb;refine ye ?_;refine X.ret ?_;refine ym ?_;all_goals (congr 1; exact (decide_eq_false fun e => by subst e; omega).symm)
 apply yf;apply yd;apply yb;refine ye ?_;apply X.block
 refine y9 (ι := Nat) (fun (k : Nat) => [(0, sgsA a), (1, sgsA b), (5, iv (k : Int))]) (fun (k : Nat) => []) (fun (k : Nat) => k <= a.length /\ a.take k = b.take k) (fun (k : Nat) => a.length - k) 0 (fun k hk => ?_) (hJ := by
  exact ⟨by omega, rfl⟩)
 obtain ⟨hk1, hk2⟩ := hk;apply yd;apply yb;refine yX ?_;refine yk rfl ?_ ?_<;>intro hc2
 ·obtain ⟨x, hx⟩ : ∃ x, a[k]? = some x := ⟨_, lgg (by omega)⟩;have hx2 : a[(k : Int).toNat]? = some x := by simpa using hx
  obtain ⟨y, hy⟩ : ∃ y, b[k]? = some y := ⟨_, lgg (by omega)⟩;have hy2 : b[(k : Int).toNat]? = some y := by simpa using hy
  apply yf;apply yd;apply X.block;apply yd;refine zi [17,18,19,20,21,22,23,24,25] [0,0,3,7,0,0,48,112,255] mo ?_;iterate 9 refine yj ?_
  refine yR ?_;apply Ex.nil;refine yk rfl ?_ ?_<;>intro hc3
  ·apply yb;refine ye ?_;refine X.ret ?_;refine ym ?_;all_goals (congr 1; exact (decide_eq_false (zmL hx hy (by simpa using hc3))).symm)
  apply yf;apply yc;refine yp ?_
  refine yL (k + 1) (hJ := by
   exact ⟨by omega, zfU hx (by rw [hy]; congr 1; first | exact (by simpa using hc3 : x = y).symm | (simp at hc3; exact hc3.symm)) hk2⟩)
 ·apply X.exit;apply yb;refine ye ?_;refine X.ret ?_;refine ym ?_;all_goals (congr 1; exact (decide_eq_true (ziM (by omega) (by omega) hk2)).symm)
theorem zko (a : List Tm) (h : a.length <= 4000000000) : Fn Tryz.prog 41 [tmsA a, tmsA a] (.bool true) := by
 have := zah a a h; simpa using this
theorem zkp (a : List Sg) (h : a.length <= 4000000000) : Fn Tryz.prog 44 [sgsA a, sgsA a] (.bool true) := by
 have := zdo a a h; simpa using this
theorem zdF (l : List Sg) (hl : l.length <= 4000) : Fn Tryz.prog 40 [sgsA l] (sgsA l) := by
 refine Fn.go Tryz.func40 Tryz.ntmps40 (fun g w d => ?_);apply yb;refine ya ?_;apply yn;refine yO sgE [] ?_;refine ya ?_;refine yi ?_;refine ye ?_;refine X.ret ?_;refine yu (Imp.freeze (k := 3) rfl) ?_;refine ym ?_;all_goals (first | rfl | (simp; rfl))
theorem zhM (n q : Int) (hn : 0 <= n /\ n <= 4611686018427387904) (hd : 1 <= q /\ q <= 4611686018427387904) : Fn Tryz.prog 116 [iv n, iv q] (tmA ⟨n / gI n q, q / gI n q⟩) := by
 refine Fn.go Tryz.func116 Tryz.ntmps116 (fun g w d => ?_);apply yb;refine yJ ?_;apply yn;refine yX ?_;apply yd;apply X.block
 refine y9 (ι := Int × Int) (fun (p : Int × Int) => [(0, iv n), (1, iv q), (4, .ptr 4 0 0 0), (5, iv p.1), (6, iv p.2)]) (fun (p : Int × Int) => [(4, .box [iv 0, iv 0] 60)]) (fun (p : Int × Int) => 0 <= p.1 /\ 0 <= p.2 /\ gI p.1 p.2 = gI n q /\ (0 < p.1 \/ 0 < p.2)) (fun (p : Int × Int) => p.2.toNat) (n, q) (fun p hk => ?_) (hJ := by
  exact ⟨by dsimp only; omega, by dsimp only; omega, rfl, by dsimp only; omega⟩)
 obtain ⟨a, b⟩ := p;obtain ⟨k1, k2, k3, k4⟩ := hk;dsimp only at *
 apply yd;apply yb;refine yh ?_;refine yk rfl ?_ ?_<;>intro hc1
 ·apply yf;apply X.block;apply yb;iterate 4 refine ya ?_
  apply yn;refine yh ?_;apply yc;refine yh ?_
  refine yL ((b, a % b)) (hJ := by
   exact ⟨by dsimp only; omega, by dsimp only; exact Int.emod_nonneg _ (by omega), by dsimp only; rw [ziU (by omega) (by omega)]; exact k3, by dsimp only; omega⟩) (hm := by dsimp only; have := Int.emod_lt_of_pos a (show 0 < b by omega); omega)
 ·have hb0 : b = 0 := by omega
  subst hb0;rw [ziT k1] at k3;subst k3;have hgp := zb1 (n := n) (d := q) (by omega);apply X.exit;apply yd;apply yb;refine yh ?_;refine yk rfl ?_ ?_<;>intro hc2
  ·omega
  apply yf;apply yd;refine zi [20,21,22,23,24,25] [0,0,3,0,0,24,63,127] mo ?_;iterate 6 refine yj ?_
  refine yR ?_;refine ya ?_;refine yi ?_;apply Ex.nil;refine X.ret ?_;refine RetQ.ret (.one (.cellA rfl rfl rfl rfl ty60 (LeV.eq ?_)));all_goals (rfl)
end Go.Rse
namespace Go.Rse
open Go Go.Proofs
end Go.Rse
namespace Go.Rse
open Go Go.Proofs
end Go.Rse
namespace Go.Rse
open Go Go.Proofs
section
variable {m : Mn} {l : List Sg} {a b d g : List Int} {k : Nat} {s : Sg}
end
end Go.Rse
namespace Go.Rse
open Go Go.Proofs
inductive ChG : List (List Int) -> List Int -> Prop
 | nil : ChG [] []
 | snoc {x : List Int} {R : List (List Int)} {r : List Int} {v : Int} (hv : v ∈ x) (h : ChG R r) : ChG (x :: R) (r ++ [v])
theorem zpG {L : List (List Int)} {c : List Int} (hl : L.length = c.length) (h : ∀ (i : Nat) x v, L[i]? = some x -> c[i]? = some v -> v ∈ x) : ∀ k, k <= L.length -> ChG (L.take k).reverse (c.take k)
 | 0, _ => by simpa using ChG.nil
 | k + 1, hk => by
  have hx : L[k]? = some L[k] := lgg (by omega);have hv : c[k]? = some c[k] := lgg (by omega);rw [List.take_add_one, List.take_add_one, hx, hv];simp only [Option.toList_some, List.reverse_append, List.reverse_cons, List.reverse_nil, List.nil_append, List.cons_append];exact .snoc (h k _ _ hx hv) (zpG hl h k (by omega))
theorem zqk {R : List (List Int)} {r : List Int} (hc : ChG R r) : r.length = R.length /\ ∀ (i : Nat) x v, R.reverse[i]? = some x -> r[i]? = some v -> v ∈ x := by
 induction hc with
 | nil => exact ⟨rfl, fun i x v h => by simp at h⟩
 | @snoc x0 R r v0 hv _ ih =>
  refine ⟨by simp [ih.1], fun i x v hx hvv => ?_⟩;rw [List.reverse_cons, List.getElem?_append] at hx;rw [List.getElem?_append] at hvv;simp only [List.length_reverse] at hx;by_cases hi : i < R.length
  ·rw [if_pos hi] at hx;rw [if_pos (by omega)] at hvv;exact ih.2 i x v hx hvv
  ·rw [if_neg hi] at hx;rw [if_neg (by omega)] at hvv
   have e1 : i - R.length = 0 := by
    have := (List.getElem?_eq_some_iff.1 hx).1;simp at this; omega
   rw [e1] at hx;rw [ih.1, e1] at hvv;simp at hx hvv;subst hx; subst hvv; exact hv
theorem zrU {L : List (List Int)} {r : List Int} (hc : ChG L.reverse r) : L.length = r.length /\ chOk r L := by
 obtain ⟨h1, h2⟩ := zqk hc;rw [List.reverse_reverse] at h2;exact ⟨by simpa using h1.symm, zdE.2 h2⟩
def zpH (x : List Int) (c : Int) : Prop := (∃ a, x = [a] /\ c = a) \/ (∃ a b, x = [a, b] /\ a < b /\ (c = a \/ c = b))
theorem zjz {m : Mn} {l : List Sg} {i : Int} {p : Sg} (hM : ckM m = 0) (h1 : 1 <= p.Value) : zpH (mngR m p) (zaP m l i p) := by
 have ha := zkQ (m := m) h1;unfold zaP mngR;by_cases hK : p.Kind = 2
 ·simp only [hK, if_true]; exact .inl ⟨_, rfl, by simp⟩
 ·simp only [hK, if_false];by_cases hC : p.Color = true
  ·simp only [hC, if_true]; exact .inl ⟨0, rfl, by simp⟩
  ·simp only [hC, if_false];by_cases h2 : m.p p.Value = 2 /\ m.aV p.Value = 0
   ·simp only [h2, and_self, if_true]; exact .inl ⟨0, rfl, by simp⟩
   ·rw [if_neg h2];by_cases h3 : m.p p.Value = 2
    ·have h4 : ¬ m.aV p.Value = 0 := fun h => h2 ⟨h3, h⟩
     rw [if_pos h3];refine .inr ⟨0, m.aV p.Value, rfl, by omega, ?_⟩;rw [if_neg (by simp)];by_cases h5 : zdC l i > p.Value
     ·rw [if_pos h5]; exact .inl (by simp [ownV])
     ·rw [if_neg h5]; exact .inr rfl
    ·rw [if_neg h3];by_cases h4 : m.aV p.Value = 0
     ·rw [if_pos h4]; exact .inl ⟨p.Value, rfl, by simp⟩
     ·rw [if_neg h4];refine .inr ⟨m.aV p.Value, p.Value, rfl, ha.2, ?_⟩;rw [if_neg (by simp)];by_cases h5 : zdC l i > p.Value
      ·rw [if_pos h5];have h6 : ¬ m.aV p.Value = p.Value := by omega
       exact .inr (by simp [ownV, h4, h6])
      ·rw [if_neg h5]; exact .inl rfl
theorem zql {m : Mn} {l : List Sg} (hM : ckM m = 0) (hck : ckD m l = 0) {k : Nat} {x : List Int} {c : Int} (hx : (mnsD m l)[k]? = some x) (hc : (zm m l)[k]? = some c) : zpH x c := by
 rw [mnsD, List.getElem?_map] at hx;rw [zm, List.getElem?_map] at hc;cases hd : (yU l l.length)[k]? with
 | none => simp [hd] at hx
 | some i =>
  simp [hd] at hx hc;obtain ⟨j, s, p, h1, h2, h3, h4, h5⟩ := zjj hck (List.mem_of_getElem? hd);obtain ⟨_, _, q1, q2, _, q3⟩ := zji hck h2 h3 h4;unfold mnAt at hx; rw [h5] at hx;unfold zcw at hc; rw [h5] at hc;have hx : mngs m p = x := hx;have hc : zaH m l i p = c := hc;rw [← hx, ← hc, zkc hM q1 q2 q3, q3];exact zjz hM q1
theorem zfh (m : Mn) (l : List Sg) : (zm m l).length = (mnsD m l).length := by
 unfold zm mnsD; simp
theorem zn9 {m : Mn} {l : List Sg} (hM : ckM m = 0) (hg : ckD m l = 0) : ChG (mnsD m l).reverse (zm m l) := by
 have hlen := zfh m l
 have h := zpG (L := mnsD m l) (c := zm m l) hlen.symm (fun i x v hx hv => by
  rcases zql hM hg hx hv with ⟨a, rfl, rfl⟩ | ⟨a, b, rfl, hab, rfl | rfl⟩ <;> simp) (mnsD m l).length (Nat.le_refl _)
 rwa [List.take_length, ← hlen, List.take_length] at h
end Go.Rse
namespace Go.Rse
open Go Go.Proofs
theorem zoa (m : Mn) (l : List Sg) : (mnsD m l).length <= l.length := by
 unfold mnsD; rw [List.length_map]; exact zaY l l.length
end Go.Rse
namespace Go.Rse
open Go Go.Proofs
end Go.Rse
namespace Go.Rse
open Go Go.Proofs
end Go.Rse
namespace Go.Rse
open Go Go.Proofs
theorem zkW {m : Mn} {l : List Sg} (hM : ckM m = 0) (hck : ckD m l = 0) : mkE m l (zm m l) = 0 := by
 unfold mkE; rw [if_pos hck, if_pos (zrU (zn9 hM hck))]
theorem zkX {m : Mn} {l : List Sg} (hck : ckD m l = 0) : duE m l (twos (prL m l).length) = 0 := by
 unfold duE;rw [if_pos hck, if_pos ⟨zby _, by unfold mnOk twos; rw [List.all_eq_true]; intro x hx; rw [(List.mem_replicate.1 hx).2]; rfl⟩]
end Go.Rse
namespace Go.Rse
open Go Go.Proofs
attribute [local irreducible] Pur yK yM Ex X Fn Imp LeV LeB FnO It yW
attribute [local irreducible] mkC mkA mkE duV duE itK itOf ckD mulV mulE
set_option maxHeartbeats 4000000 in
theorem ziN (m : Mn) (l : List Sg) (ch mi : List Int) (hl : l.length <= 1000) (hmi : mi.length <= 1000) : Fn Tryz.prog 33 [mnA m, sgsA l, yg ch, yg mi] (.tup [itsA (itmV m l ch mi), iv (itmE m l ch mi)]) := by
 refine Fn.go Tryz.func33 Tryz.ntmps33 (fun g w d => ?_);apply yb;refine yH ?_;refine yh ?_;apply yd;apply yb;iterate 2 refine ya ?_
 refine yr (zcn m l hl) ?_;refine ya ?_;apply yn;refine yh ?_;refine yk rfl ?_ ?_<;>intro hc1
 ·have hE : itmE m l ch mi = ckD m l := by rw [zkm (by rw [zkl hc1]; exact hc1), zkl hc1]
  have hV : itmV m l ch mi = [] := zgZ (by rw [hE]; exact hc1);apply yb;refine yp ?_;refine X.ret ?_;refine yu (yl (ts := [(8, itsA []), (9, iv (ckD m l))]) (hs := [])) ?_;refine yz ?_ ?_;all_goals (first | (rw [hV]; done) | (rw [hE]; done) | (rw [hV]; rfl) | (rw [hE]; rfl))
 apply yf;apply yb;iterate 3 refine ya ?_
 refine yr (zjv m l hl ch) ?_;iterate 6 refine ya ?_
 refine ye ?_;apply yd;apply yb;refine yh ?_;refine yk rfl ?_ ?_<;>intro hc2
 ·have hE : itmE m l ch mi = mkE m l ch := zkm hc2;have hV : itmV m l ch mi = [] := zgZ (by rw [hE]; exact hc2);apply yb;refine yp ?_;refine X.ret ?_;refine yu (yl (ts := [(8, itsA []), (9, iv (mkE m l ch))]) (hs := [])) ?_;refine yz ?_ ?_;all_goals (first | (rw [hV]; done) | (rw [hE]; done) | (rw [hV]; rfl) | (rw [hE]; rfl))
 apply yf;apply yb;iterate 3 refine ya ?_
 refine yr (ziF m l mi hl hmi) ?_;refine y4 ?_;apply yd;apply yb;refine yh ?_;refine yk rfl ?_ ?_<;>intro hc3
 ·have hE : itmE m l ch mi = duE m l mi := ziL hc2;have hV : itmV m l ch mi = [] := zgZ (by rw [hE]; exact hc3);apply yb;refine yp ?_;refine X.ret ?_;refine yu (yl (ts := [(8, itsA []), (9, iv (duE m l mi))]) (hs := [])) ?_;refine yz ?_ ?_;all_goals (first | (rw [hV]; done) | (rw [hE]; done) | (rw [hV]; rfl) | (rw [hE]; rfl))
 have hE : itmE m l ch mi = 0 := (ziL hc2).trans hc3;have hV := zkn hE;apply yf;apply yb;refine ye ?_;iterate 2 apply yd
 refine y3 (yZ itE 62 12 15 201 rfl rfl) ?_;apply yc;refine yp ?_;apply X.block;have hr0 := zpD l (mkC m l ch) (mkA m l ch) (duV m l mi);refine y9 (ι := Nat) (fun (k : Nat) => [(11, yg (mkC m l ch)), (12, zbd (mkA m l ch)), (14, tmsA (duV m l mi)), (15, .own 201), (47, sgsA l), (48, iv l.length), (49, iv (k : Int))]) (fun (k : Nat) => [(201, .row itE (itK l (mkC m l ch) (mkA m l ch) (duV m l mi) k) 62 12)]) (fun (k : Nat) => k <= l.length) (fun (k : Nat) => l.length - k) 0 (fun k hk => ?_);apply yb;refine ye ?_;apply yd;refine yk rfl ?_ ?_<;>intro hc4
 ·obtain ⟨s, hs⟩ : ∃ s, l[k]? = some s := ⟨_, lgg (by omega)⟩;have hs2 : l[(k : Int).toNat]? = some s := by simpa using hs
  have hnt := ziK l (mkC m l ch) (mkA m l ch) (duV m l mi) k;have hnl := ziI l k;apply yf;apply yd;apply X.block;apply yb;iterate 3 refine ya ?_
  refine yJ ?_;refine ya ?_;refine yi ?_;apply Ex.nil;apply yd;apply yb;refine yp ?_;refine yk rfl ?_ ?_<;>intro hc5
  ·have hst := ziJ (c := mkC m l ch) (a := mkA m l ch) (d := duV m l mi) hs hc5;apply X.exit;apply yc;refine yh ?_;refine yL (k + 1)
  obtain ⟨x, y, z, hx, hy, hz, hmul, hlt, hm, v1, v8⟩ := zpF hc2 hc3 hs hc5;have hst := zmG hs hc5 hx hy hz;have hx2 : (mkC m l ch)[((itK l (mkC m l ch) (mkA m l ch) (duV m l mi) k).length : Int).toNat]? = some x := by rw [hnt]; simpa using hx
  have hy2 : (mkA m l ch)[((itK l (mkC m l ch) (mkA m l ch) (duV m l mi) k).length : Int).toNat]? = some y := by rw [hnt]; simpa using hy
  have hz2 : (duV m l mi)[((itK l (mkC m l ch) (mkA m l ch) (duV m l mi) k).length : Int).toNat]? = some z := by rw [hnt]; simpa using hz
  apply yf;apply yb;refine yp ?_;refine zc6 ⟨[(11, yg (mkC m l ch)), (12, zbd (mkA m l ch)), (14, tmsA (duV m l mi)), (15, .own 201), (18, iv ((itK l (mkC m l ch) (mkA m l ch) (duV m l mi) k).length : Int)), (19, .ptr 19 0 0 0), (47, sgsA l), (48, iv l.length), (49, iv (k : Int))], [(201, .row itE (itK l (mkC m l ch) (mkA m l ch) (duV m l mi) k) 62 12), (19, .box [iv k, iv s.Value, .bool (decide (s.Kind = 2)), .bool (decide (s.Kind = 1) && s.Color), .bool false, iv x, iv z.N, iv z.D, iv 0, iv 0, iv 0, iv 0] 62)]⟩ (fun hJ17 => ?_) ?_
  ·refine zi [19,59,60,61,62,63,64,65,66,67,68,69,70,71,72,73,74,75,76,77,78,79,80] [0,0,2,0,8,24,0,64,192,448,960,1984,4032,0,0,24576,57344,0,0,393216,917504,2097151,0,8388607] mo ?_;(iterate 10 refine yj ?_);(iterate 2 refine ChM.gi ?_);(iterate 10 refine yj ?_);refine ChM.step rfl rfl rfl (zA (k := 19) zc62) rfl ?_;refine yR ?_;refine yi ?_;apply Ex.nil;exact y3 yx hJ17
  refine zc6 ⟨[(11, yg (mkC m l ch)), (12, zbd (mkA m l ch)), (14, tmsA (duV m l mi)), (15, .own 201), (18, iv ((itK l (mkC m l ch) (mkA m l ch) (duV m l mi) k).length : Int)), (19, .ptr 19 0 0 0), (47, sgsA l), (48, iv l.length), (49, iv (k : Int))], [(201, .row itE (itK l (mkC m l ch) (mkA m l ch) (duV m l mi) k) 62 12), (19, .box [iv k, iv s.Value, .bool (decide (s.Kind = 2)), .bool (decide (s.Kind = 1) && s.Color), .bool false, iv x, iv z.N, iv z.D, iv 0, iv 1, iv 0, iv 1] 62)]⟩ (fun hJ18 => ?_) ?_
  ·apply yc;(iterate 3 refine ya ?_);refine yi ?_;refine ya ?_;refine yi ?_;apply Ex.nil;exact y3 yx hJ18
  apply yd;apply X.block;apply yd;apply X.block;apply yd;apply X.block;iterate 2 apply yd
  apply yb;refine y4 ?_;refine yk rfl ?_ ?_<;>intro hc6
  ·rw [← zrS hc6] at hst;apply X.exit;apply yb;(iterate 3 refine ya ?_);refine yr (zeX z ⟨3, 2⟩) ?_;(iterate 4 refine ya ?_);refine yi ?_;refine ya ?_;apply yn;refine yh ?_;refine yk rfl ?_ ?_<;>intro hc7
   ·exact absurd hmul hc7
   apply yf;apply yb;refine ya ?_;refine yi ?_;apply Ex.nil;apply X.exit;apply yc;(iterate 2 refine ya ?_);refine yO itE [itL k s true x (mulV z ⟨3, 2⟩)] ?_;refine yi ?_;refine ye ?_;apply yc;refine yh ?_;refine yL (k + 1)
  apply yf;apply yd;apply yb;refine yp ?_;refine yk rfl ?_ ?_<;>intro hc8
  ·apply yf;refine yk rfl ?_ ?_<;>intro hc9
   ·rw [← zmK hc6 (.inl hc8)] at hst;apply X.exit;apply yb;refine ya ?_;refine yi ?_;apply Ex.nil;apply X.exit;apply yc;(iterate 2 refine ya ?_);refine yO itE [itL k s true x z] ?_;refine yi ?_;refine ye ?_;apply yc;refine yh ?_;refine yL (k + 1)
   exact absurd hc8 hc9
  ·apply yb;refine yp ?_;refine yk rfl ?_ ?_<;>intro hc10
   ·apply yf;refine yk rfl ?_ ?_<;>intro hc11
    ·rw [← zmK hc6 (.inr (.inl (by unfold clr; rw [decide_eq_true hc11.1, hc11.2]; rfl)))] at hst;apply X.exit;apply yb;refine ya ?_;refine yi ?_;apply Ex.nil;apply X.exit;apply yc;(iterate 2 refine ya ?_);refine yO itE [itL k s true x z] ?_;refine yi ?_;refine ye ?_;apply yc;refine yh ?_;refine yL (k + 1)
    exact absurd hc11 (fun hc11 => hc11.elim (fun h => h hc10.1) (fun h => by rw [hc10.2] at h; cases h))
   ·apply yc;(iterate 5 refine ya ?_);refine ye ?_;refine yk rfl ?_ ?_<;>intro hc12
    ·rw [← zmK hc6 (.inr (.inr hc12))] at hst;apply X.exit;apply yb;refine ya ?_;refine yi ?_;apply Ex.nil;apply X.exit;apply yc;(iterate 2 refine ya ?_);refine yO itE [itL k s true x z] ?_;refine yi ?_;refine ye ?_;apply yc;refine yh ?_;refine yL (k + 1)
    rw [← zrT hc6 hc8 (by unfold clr; rcases hc10 with h | h <;> simp [h]) hc12] at hst;apply yf;apply X.exit;apply yc;(iterate 2 refine ya ?_);refine yO itE [itL k s false x z] ?_;refine yi ?_;refine ye ?_;apply yc;refine yh ?_;refine yL (k + 1)
 ·have hkl : k = l.length := by omega
  subst hkl;apply X.exit;apply yb;refine yp ?_;refine X.ret ?_;refine yu (Imp.freeze (k := 201) rfl) ?_;refine yz ?_ ?_;all_goals (first | (rw [hV]; done) | (rw [hE]; done) | (rw [hV]; rfl) | (rw [hE]; rfl))
end Go.Rse
