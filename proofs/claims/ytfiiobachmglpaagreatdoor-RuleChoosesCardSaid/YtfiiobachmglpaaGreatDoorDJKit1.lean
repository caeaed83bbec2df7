/-
  Walks: what statements share: comparisons of lists, lists in new memory, numbers made small, mensurations and times made of numbers.
-/
import Derived.Test.YtfiiobachmglpaaGreatDoorDJTime
import Derived.Test.YtfiiobachmglpaaGreatDoorDMens2
import Derived.Test.YtfiiobachmglpaaGreatDoorDLogB
import Derived.Test.YtfiiobachmglpaaGreatDoorDLogC
import Derived.Test.YtfiiobachmglpaaGreatDoorDIteA
import Derived.Test.YtfiiobachmglpaaGreatDoorDDotB
import Derived.Test.YtfiiobachmglpaaGreatDoorDJColA
import Derived.Test.YtfiiobachmglpaaGreatDoorDJColB
import Derived.Test.YtfiiobachmglpaaGreatDoorDLvlA
set_option linter.unusedSimpArgs false
set_option linter.unusedVariables false
namespace Go.Rse
open Go Go.Proofs
attribute [local irreducible] Pur StepA StepM Ex X Fn Imp LeV LeB FnO It YStep
theorem zey {α : Type} {a b : List α} {k : Nat} {x : α} (ha : a[k]? = some x) (hb : b[k]? = some x) (h : a.take k = b.take k) : a.take (k + 1) = b.take (k + 1) := by
 rw [List.take_add_one, List.take_add_one, ha, hb, h]
theorem zg9 {α : Type} {a b : List α} {k : Nat} (hl : a.length = b.length) (hk : a.length <= k) (h : a.take k = b.take k) : a = b := by
 rwa [List.take_of_length_le hk, List.take_of_length_le (by omega)] at h
theorem zlt {α : Type} {a b : List α} {k : Nat} {x y : α} (ha : a[k]? = some x) (hb : b[k]? = some y) (h : x ≠ y) : a ≠ b := fun e => by
 subst e; rw [ha] at hb; injection hb with hb; exact h hb
attribute [local irreducible] gI
theorem zcU (a b : List Int) (hl : a.length <= 4000000000) : Fn Tryz.prog 22 [intsA a, intsA b] (.bool (decide (a = b))) := by
 refine Fn.go Tryz.func22 Tryz.ntmps22 (fun g w d => ?_)
 apply X.sr
 refine Ex.pn ?_
 apply X.seq
 apply X.sr
 iterate 4 refine Ex.pu ?_
 refine Ex.pn ?_
 refine X.cd rfl ?_ ?_<;>intro hc1
 ·apply X.sr
  refine Ex.pn ?_
  refine X.ret ?_
  refine RetQ.r1 ?_
  all_goals (congr 1; exact (decide_eq_false fun e => by subst e; omega).symm)
 apply X.skip
 apply X.seq
 apply X.sr
 refine Ex.pn ?_
 apply X.block
 refine X.lp (ι := Nat) (fun (k : Nat) => [(0, intsA a), (1, intsA b), (5, iv (k : Int))]) (fun (k : Nat) => []) (fun (k : Nat) => k <= a.length /\ a.take k = b.take k) (fun (k : Nat) => a.length - k) 0 (fun k hk => ?_) (hJ := by
  exact ⟨by omega, rfl⟩)
 obtain ⟨hk1, hk2⟩ := hk
 apply X.seq
 apply X.sr
 iterate 3 refine Ex.pu ?_
 refine Ex.pn ?_
 refine X.cd rfl ?_ ?_<;>intro hc2
 ·obtain ⟨x, hx⟩ : ∃ x, a[k]? = some x := ⟨_, Go.Rse.L.gg (by omega)⟩
  have hx2 : a[(k : Int).toNat]? = some x := by simpa using hx
  obtain ⟨y, hy⟩ : ∃ y, b[k]? = some y := ⟨_, Go.Rse.L.gg (by omega)⟩
  have hy2 : b[(k : Int).toNat]? = some y := by simpa using hy
  apply X.skip
  apply X.seq
  apply X.block
  apply X.seq
  refine X.dw [17,18,19,20,21,22,23,24,25] [0,0,3,7,0,0,48,112,255] mo ?_
  iterate 9 refine ChM.pu ?_
  refine ChM.tl ?_
  apply Ex.nil
  refine X.cd rfl ?_ ?_<;>intro hc3
  ·apply X.sr
   refine Ex.pn ?_
   refine X.ret ?_
   refine RetQ.r1 ?_
   all_goals (congr 1; exact (decide_eq_false (zlt hx hy (by simpa using hc3))).symm)
  apply X.skip
  apply X.region
  iterate 2 refine Ex.pu ?_
  refine Ex.pn ?_
  refine X.bk (k + 1) (hJ := by
   exact ⟨by omega, zey hx (by rw [hy]; congr 1; first | exact (by simpa using hc3 : x = y).symm | (simp at hc3; exact hc3.symm)) hk2⟩)
 ·apply X.exit
  apply X.sr
  refine Ex.pn ?_
  refine X.ret ?_
  refine RetQ.r1 ?_
  all_goals (congr 1; exact (decide_eq_true (zg9 (by omega) (by omega) hk2)).symm)
theorem zcs (a b : List Tm) (hl : a.length <= 4000000000) : Fn Tryz.prog 41 [tmsA a, tmsA b] (.bool (decide (a = b))) := by
 refine Fn.go Tryz.func41 Tryz.ntmps41 (fun g w d => ?_)
 apply X.sr
 refine Ex.pn ?_
 apply X.seq
 apply X.sr
 iterate 4 refine Ex.pu ?_
 refine Ex.pn ?_
 refine X.cd rfl ?_ ?_<;>intro hc1
 ·apply X.sr
  refine Ex.pn ?_
  refine X.ret ?_
  refine RetQ.r1 ?_
  all_goals (congr 1; exact (decide_eq_false fun e => by subst e; omega).symm)
 apply X.skip
 apply X.seq
 apply X.sr
 refine Ex.pn ?_
 apply X.block
 refine X.lp (ι := Nat) (fun (k : Nat) => [(0, tmsA a), (1, tmsA b), (5, iv (k : Int))]) (fun (k : Nat) => []) (fun (k : Nat) => k <= a.length /\ a.take k = b.take k) (fun (k : Nat) => a.length - k) 0 (fun k hk => ?_) (hJ := by
  exact ⟨by omega, rfl⟩)
 obtain ⟨hk1, hk2⟩ := hk
 apply X.seq
 apply X.sr
 iterate 3 refine Ex.pu ?_
 refine Ex.pn ?_
 refine X.cd rfl ?_ ?_<;>intro hc2
 ·obtain ⟨x, hx⟩ : ∃ x, a[k]? = some x := ⟨_, Go.Rse.L.gg (by omega)⟩
  have hx2 : a[(k : Int).toNat]? = some x := by simpa using hx
  obtain ⟨y, hy⟩ : ∃ y, b[k]? = some y := ⟨_, Go.Rse.L.gg (by omega)⟩
  have hy2 : b[(k : Int).toNat]? = some y := by simpa using hy
  apply X.skip
  apply X.seq
  apply X.block
  apply X.seq
  refine X.dw [17,18,19,20,21,22,23,24,25] [0,0,3,7,0,0,48,112,255] mo ?_
  iterate 9 refine ChM.pu ?_
  refine ChM.tl ?_
  apply Ex.nil
  refine X.cd rfl ?_ ?_<;>intro hc3
  ·apply X.sr
   refine Ex.pn ?_
   refine X.ret ?_
   refine RetQ.r1 ?_
   all_goals (congr 1; exact (decide_eq_false (zlt hx hy (by simpa using hc3))).symm)
  apply X.skip
  apply X.region
  iterate 2 refine Ex.pu ?_
  refine Ex.pn ?_
  refine X.bk (k + 1) (hJ := by
   exact ⟨by omega, zey hx (by rw [hy]; congr 1; first | exact (by simpa using hc3 : x = y).symm | (simp at hc3; exact hc3.symm)) hk2⟩)
 ·apply X.exit
  apply X.sr
  refine Ex.pn ?_
  refine X.ret ?_
  refine RetQ.r1 ?_
  all_goals (congr 1; exact (decide_eq_true (zg9 (by omega) (by omega) hk2)).symm)
theorem zgl (a : List Int) (h : a.length <= 4000000000) : Fn Tryz.prog 22 [intsA a, intsA a] (.bool true) := by
 have := zcU a a h; simpa using this
theorem zfK (n q : Int) (hn : 0 <= n /\ n <= 4611686018427387904) (hd : 1 <= q /\ q <= 4611686018427387904) : Fn Tryz.prog 116 [iv n, iv q] (tmA ⟨n / gI n q, q / gI n q⟩) := by
 refine Fn.go Tryz.func116 Tryz.ntmps116 (fun g w d => ?_)
 apply X.sr
 refine Ex.al ?_
 apply Ex.ns
 iterate 3 refine Ex.pu ?_
 refine Ex.pn ?_
 apply X.seq
 apply X.block
 refine X.lp (ι := Int × Int) (fun (p : Int × Int) => [(0, iv n), (1, iv q), (4, .ptr 4 0 0 0), (5, iv p.1), (6, iv p.2)]) (fun (p : Int × Int) => [(4, .box [iv 0, iv 0] 60)]) (fun (p : Int × Int) => 0 <= p.1 /\ 0 <= p.2 /\ gI p.1 p.2 = gI n q /\ (0 < p.1 \/ 0 < p.2)) (fun (p : Int × Int) => p.2.toNat) (n, q) (fun p hk => ?_) (hJ := by
  exact ⟨by dsimp only; omega, by dsimp only; omega, rfl, by dsimp only; omega⟩)
 obtain ⟨a, b⟩ := p
 obtain ⟨k1, k2, k3, k4⟩ := hk
 dsimp only at *
 apply X.seq
 apply X.sr
 refine Ex.pu ?_
 refine Ex.pn ?_
 refine X.cd rfl ?_ ?_<;>intro hc1
 ·apply X.skip
  apply X.block
  apply X.sr
  iterate 4 refine Ex.pu ?_
  apply Ex.ns
  refine Ex.pu ?_
  refine Ex.pn ?_
  apply X.region
  refine Ex.pu ?_
  refine Ex.pn ?_
  refine X.bk ((b, a % b)) (hJ := by
   exact ⟨by dsimp only; omega, by dsimp only; exact Int.emod_nonneg _ (by omega), by dsimp only; rw [zhB (by omega) (by omega)]; exact k3, by dsimp only; omega⟩) (hm := by dsimp only; have := Int.emod_lt_of_pos a (show 0 < b by omega); omega)
 ·have hb0 : b = 0 := by omega
  subst hb0
  rw [zhA k1] at k3
  subst k3
  have hgp := zcL (n := n) (d := q) (by omega)
  apply X.exit
  apply X.seq
  apply X.sr
  refine Ex.pu ?_
  refine Ex.pn ?_
  refine X.cd rfl ?_ ?_<;>intro hc2
  ·omega
  apply X.skip
  apply X.seq
  refine X.dw [20,21,22,23,24,25] [0,0,3,0,0,24,63,127] mo ?_
  iterate 6 refine ChM.pu ?_
  refine ChM.tl ?_
  refine Ex.pu ?_
  refine Ex.mo ?_
  apply Ex.nil
  refine X.ret ?_
  refine RetQ.ret (.one (.cellA rfl rfl rfl rfl ty60 (LeV.eq ?_)))
  all_goals (rfl)
end Go.Rse
namespace Go.Rse
open Go Go.Proofs
end Go.Rse
namespace Go.Rse
open Go Go.Proofs
end Go.Rse
namespace Go.Rse
open Go Go.Proofs
section
variable {m : Mn} {l : List Sg} {a b d g : List Int} {k : Nat} {s : Sg}
end
end Go.Rse
namespace Go.Rse
open Go Go.Proofs
inductive ChG : List (List Int) -> List Int -> Prop
 | nil : ChG [] []
 | snoc {x : List Int} {R : List (List Int)} {r : List Int} {v : Int} (hv : v ∈ x) (h : ChG R r) : ChG (x :: R) (r ++ [v])
theorem zna {L : List (List Int)} {c : List Int} (hl : L.length = c.length) (h : ∀ (i : Nat) x v, L[i]? = some x -> c[i]? = some v -> v ∈ x) : ∀ k, k <= L.length -> ChG (L.take k).reverse (c.take k)
 | 0, _ => by simpa using ChG.nil
 | k + 1, hk => by
  have hx : L[k]? = some L[k] := Go.Rse.L.gg (by omega)
  have hv : c[k]? = some c[k] := Go.Rse.L.gg (by omega)
  rw [List.take_add_one, List.take_add_one, hx, hv]
  simp only [Option.toList_some, List.reverse_append, List.reverse_cons, List.reverse_nil, List.nil_append, List.cons_append]
  exact .snoc (h k _ _ hx hv) (zna hl h k (by omega))
theorem znb {R : List (List Int)} {r : List Int} (hc : ChG R r) : r.length = R.length /\ ∀ (i : Nat) x v, R.reverse[i]? = some x -> r[i]? = some v -> v ∈ x := by
 induction hc with
 | nil => exact ⟨rfl, fun i x v h => by simp at h⟩
 | @snoc x0 R r v0 hv _ ih =>
  refine ⟨by simp [ih.1], fun i x v hx hvv => ?_⟩
  rw [List.reverse_cons, List.getElem?_append] at hx
  rw [List.getElem?_append] at hvv
  simp only [List.length_reverse] at hx
  by_cases hi : i < R.length
  ·rw [if_pos hi] at hx
   rw [if_pos (by omega)] at hvv
   exact ih.2 i x v hx hvv
  ·rw [if_neg hi] at hx
   rw [if_neg (by omega)] at hvv
   have e1 : i - R.length = 0 := by
    have := (List.getElem?_eq_some_iff.1 hx).1
    simp at this; omega
   rw [e1] at hx
   rw [ih.1, e1] at hvv
   simp at hx hvv
   subst hx; subst hvv; exact hv
theorem zoS {L : List (List Int)} {r : List Int} (hc : ChG L.reverse r) : L.length = r.length /\ chOk r L := by
 obtain ⟨h1, h2⟩ := znb hc
 rw [List.reverse_reverse] at h2
 exact ⟨by simpa using h1.symm, zfH.2 h2⟩
def TwoOk (x : List Int) (c : Int) : Prop := (∃ a, x = [a] /\ c = a) \/ (∃ a b, x = [a, b] /\ a < b /\ (c = a \/ c = b))
theorem zg8 {m : Mn} {l : List Sg} {i : Int} {p : Sg} (hM : ckM m = 0) (h1 : 1 <= p.Value) : TwoOk (mngR m p) (choiceR m l i p) := by
 have ha := zjR (m := m) h1
 unfold choiceR mngR
 by_cases hK : p.Kind = 2
 ·simp only [hK, if_true]; exact .inl ⟨_, rfl, by simp⟩
 ·simp only [hK, if_false]
  by_cases hC : p.Color = true
  ·simp only [hC, if_true]; exact .inl ⟨0, rfl, by simp⟩
  ·simp only [hC, if_false]
   by_cases h2 : m.p p.Value = 2 /\ m.aV p.Value = 0
   ·simp only [h2, and_self, if_true]; exact .inl ⟨0, rfl, by simp⟩
   ·rw [if_neg h2]
    by_cases h3 : m.p p.Value = 2
    ·have h4 : ¬ m.aV p.Value = 0 := fun h => h2 ⟨h3, h⟩
     rw [if_pos h3]
     refine .inr ⟨0, m.aV p.Value, rfl, by omega, ?_⟩
     rw [if_neg (by simp)]
     by_cases h5 : nextV l i > p.Value
     ·rw [if_pos h5]; exact .inl (by simp [ownV])
     ·rw [if_neg h5]; exact .inr rfl
    ·rw [if_neg h3]
     by_cases h4 : m.aV p.Value = 0
     ·rw [if_pos h4]; exact .inl ⟨p.Value, rfl, by simp⟩
     ·rw [if_neg h4]
      refine .inr ⟨m.aV p.Value, p.Value, rfl, ha.2, ?_⟩
      rw [if_neg (by simp)]
      by_cases h5 : nextV l i > p.Value
      ·rw [if_pos h5]
       have h6 : ¬ m.aV p.Value = p.Value := by omega
       exact .inr (by simp [ownV, h4, h6])
      ·rw [if_neg h5]; exact .inl rfl
theorem znc {m : Mn} {l : List Sg} (hM : ckM m = 0) (hck : ckD m l = 0) {k : Nat} {x : List Int} {c : Int} (hx : (mnsD m l)[k]? = some x) (hc : (ruleD m l)[k]? = some c) : TwoOk x c := by
 rw [mnsD, List.getElem?_map] at hx
 rw [ruleD, List.getElem?_map] at hc
 cases hd : (dotsK l l.length)[k]? with
 | none => simp [hd] at hx
 | some i =>
  simp [hd] at hx hc
  obtain ⟨j, s, p, h1, h2, h3, h4, h5⟩ := dotPrev hck (List.mem_of_getElem? hd)
  obtain ⟨_, _, q1, q2, _, q3⟩ := prevOk hck h2 h3 h4
  unfold mnAt at hx; rw [h5] at hx
  unfold ruleAt at hc; rw [h5] at hc
  have hx : mngs m p = x := hx
  have hc : choice m l i p = c := hc
  rw [← hx, ← hc, zh7 hM q1 q2 q3, q3]
  exact zg8 hM q1
theorem zhI (m : Mn) (l : List Sg) : (ruleD m l).length = (mnsD m l).length := by
 unfold ruleD mnsD; simp
theorem zls {m : Mn} {l : List Sg} (hM : ckM m = 0) (hg : ckD m l = 0) : ChG (mnsD m l).reverse (ruleD m l) := by
 have hlen := zhI m l
 have h := zna (L := mnsD m l) (c := ruleD m l) hlen.symm (fun i x v hx hv => by
  rcases znc hM hg hx hv with ⟨a, rfl, rfl⟩ | ⟨a, b, rfl, hab, rfl | rfl⟩ <;> simp) (mnsD m l).length (Nat.le_refl _)
 rwa [List.take_length, ← hlen, List.take_length] at h
end Go.Rse
namespace Go.Rse
open Go Go.Proofs
end Go.Rse
namespace Go.Rse
open Go Go.Proofs
end Go.Rse
namespace Go.Rse
open Go Go.Proofs
end Go.Rse
namespace Go.Rse
open Go Go.Proofs
theorem ziV {m : Mn} {l : List Sg} (hM : ckM m = 0) (hck : ckD m l = 0) : mkE m l (ruleD m l) = 0 := by
 unfold mkE; rw [if_pos hck, if_pos (zoS (zls hM hck))]
theorem ziW {m : Mn} {l : List Sg} (hck : ckD m l = 0) : duE m l (twos (prL m l).length) = 0 := by
 unfold duE
 rw [if_pos hck, if_pos ⟨zdu _, by unfold mnOk twos; rw [List.all_eq_true]; intro x hx; rw [(List.mem_replicate.1 hx).2]; rfl⟩]
end Go.Rse
namespace Go.Rse
open Go Go.Proofs
attribute [local irreducible] Pur StepA StepM Ex X Fn Imp LeV LeB FnO It YStep
attribute [local irreducible] mkC mkA mkE duV duE itK itOf ckD mulV mulE
set_option maxHeartbeats 4000000 in
theorem zgk (m : Mn) (l : List Sg) (ch mi : List Int) (hl : l.length <= 1000) (hmi : mi.length <= 1000) : Fn Tryz.prog 33 [mnA m, sgsA l, intsA ch, intsA mi] (.tup [itsA (itmV m l ch mi), iv (itmE m l ch mi)]) := by
 refine Fn.go Tryz.func33 Tryz.ntmps33 (fun g w d => ?_)
 apply X.sr
 refine Ex.ba ?_
 refine Ex.pu ?_
 refine Ex.pn ?_
 apply X.seq
 apply X.sr
 iterate 2 refine Ex.pu ?_
 refine Ex.ca (zb1 m l hl) ?_
 refine Ex.pu ?_
 apply Ex.ns
 refine Ex.pu ?_
 refine Ex.pn ?_
 refine X.cd rfl ?_ ?_<;>intro hc1
 ·have hE : itmE m l ch mi = ckD m l := by rw [zkT (by rw [ziT hc1]; exact hc1), ziT hc1]
  have hV : itmV m l ch mi = [] := ziU (by rw [hE]; exact hc1)
  apply X.sr
  iterate 2 refine Ex.pu ?_
  refine Ex.pn ?_
  refine X.ret ?_
  refine RetQ.imp (Imp.au (ts := [(8, itsA []), (9, iv (ckD m l))]) (hs := [])) ?_
  refine RetQ.r2 ?_ ?_
  all_goals (first | (rw [hV]; done) | (rw [hE]; done) | (rw [hV]; rfl) | (rw [hE]; rfl))
 apply X.skip
 apply X.sr
 iterate 3 refine Ex.pu ?_
 refine Ex.ca (zgZ m l hl ch) ?_
 iterate 6 refine Ex.pu ?_
 refine Ex.pn ?_
 apply X.seq
 apply X.sr
 refine Ex.pu ?_
 refine Ex.pn ?_
 refine X.cd rfl ?_ ?_<;>intro hc2
 ·have hE : itmE m l ch mi = mkE m l ch := zkT hc2
  have hV : itmV m l ch mi = [] := ziU (by rw [hE]; exact hc2)
  apply X.sr
  iterate 2 refine Ex.pu ?_
  refine Ex.pn ?_
  refine X.ret ?_
  refine RetQ.imp (Imp.au (ts := [(8, itsA []), (9, iv (mkE m l ch))]) (hs := [])) ?_
  refine RetQ.r2 ?_ ?_
  all_goals (first | (rw [hV]; done) | (rw [hE]; done) | (rw [hV]; rfl) | (rw [hE]; rfl))
 apply X.skip
 apply X.sr
 iterate 3 refine Ex.pu ?_
 refine Ex.ca (zgi m l mi hl hmi) ?_
 iterate 4 refine Ex.pu ?_
 refine Ex.pn ?_
 apply X.seq
 apply X.sr
 refine Ex.pu ?_
 refine Ex.pn ?_
 refine X.cd rfl ?_ ?_<;>intro hc3
 ·have hE : itmE m l ch mi = duE m l mi := zkU hc2
  have hV : itmV m l ch mi = [] := ziU (by rw [hE]; exact hc3)
  apply X.sr
  iterate 2 refine Ex.pu ?_
  refine Ex.pn ?_
  refine X.ret ?_
  refine RetQ.imp (Imp.au (ts := [(8, itsA []), (9, iv (duE m l mi))]) (hs := [])) ?_
  refine RetQ.r2 ?_ ?_
  all_goals (first | (rw [hV]; done) | (rw [hE]; done) | (rw [hV]; rfl) | (rw [hE]; rfl))
 have hE : itmE m l ch mi = 0 := (zkU hc2).trans hc3
 have hV := zkV hE
 apply X.skip
 apply X.sr
 refine Ex.pn ?_
 iterate 2 apply X.seq
 refine X.imp (Imp.mkrow itE 62 12 15 201 rfl rfl) ?_
 apply X.region
 iterate 2 refine Ex.pu ?_
 refine Ex.pn ?_
 apply X.block
 have hr0 := zoO l (mkC m l ch) (mkA m l ch) (duV m l mi)
 refine X.lp (ι := Nat) (fun (k : Nat) => [(11, intsA (mkC m l ch)), (12, boolsA (mkA m l ch)), (14, tmsA (duV m l mi)), (15, .own 201), (47, sgsA l), (48, iv l.length), (49, iv (k : Int))]) (fun (k : Nat) => [(201, .row itE (itK l (mkC m l ch) (mkA m l ch) (duV m l mi) k) 62 12)]) (fun (k : Nat) => k <= l.length) (fun (k : Nat) => l.length - k) 0 (fun k hk => ?_)
 apply X.sr
 refine Ex.pn ?_
 apply X.seq
 refine X.cd rfl ?_ ?_<;>intro hc4
 ·obtain ⟨s, hs⟩ : ∃ s, l[k]? = some s := ⟨_, Go.Rse.L.gg (by omega)⟩
  have hs2 : l[(k : Int).toNat]? = some s := by simpa using hs
  have hnt := ziR l (mkC m l ch) (mkA m l ch) (duV m l mi) k
  have hnl := ziN l k
  apply X.skip
  apply X.seq
  apply X.block
  apply X.sr
  iterate 3 refine Ex.pu ?_
  refine Ex.al ?_
  refine Ex.pu ?_
  refine Ex.mo ?_
  apply Ex.nil
  apply X.seq
  apply X.sr
  iterate 2 refine Ex.pu ?_
  refine Ex.pn ?_
  refine X.cd rfl ?_ ?_<;>intro hc5
  ·have hst := ziQ (c := mkC m l ch) (a := mkA m l ch) (d := duV m l mi) hs hc5
   apply X.exit
   apply X.region
   refine Ex.pu ?_
   refine Ex.pn ?_
   refine X.bk (k + 1)
  obtain ⟨x, y, z, hx, hy, hz, hmul, hlt, hm, v1, v8⟩ := zoP hc2 hc3 hs hc5
  have hst := zm8 hs hc5 hx hy hz
  have hx2 : (mkC m l ch)[((itK l (mkC m l ch) (mkA m l ch) (duV m l mi) k).length : Int).toNat]? = some x := by rw [hnt]; simpa using hx
  have hy2 : (mkA m l ch)[((itK l (mkC m l ch) (mkA m l ch) (duV m l mi) k).length : Int).toNat]? = some y := by rw [hnt]; simpa using hy
  have hz2 : (duV m l mi)[((itK l (mkC m l ch) (mkA m l ch) (duV m l mi) k).length : Int).toNat]? = some z := by rw [hnt]; simpa using hz
  apply X.skip
  apply X.sr
  iterate 2 refine Ex.pu ?_
  refine Ex.pn ?_
  refine X.seqJ ⟨[(11, intsA (mkC m l ch)), (12, boolsA (mkA m l ch)), (14, tmsA (duV m l mi)), (15, .own 201), (18, iv ((itK l (mkC m l ch) (mkA m l ch) (duV m l mi) k).length : Int)), (19, .ptr 19 0 0 0), (47, sgsA l), (48, iv l.length), (49, iv (k : Int))], [(201, .row itE (itK l (mkC m l ch) (mkA m l ch) (duV m l mi) k) 62 12), (19, .box [iv k, iv s.Value, .bool (decide (s.Kind = 2)), .bool (decide (s.Kind = 1) && s.Color), .bool false, iv x, iv z.N, iv z.D, iv 0, iv 0, iv 0, iv 0] 62)]⟩ (fun hJ17 => ?_) ?_
  ·refine X.dw [19,59,60,61,62,63,64,65,66,67,68,69,70,71,72,73,74,75,76,77,78,79,80] [0,0,2,0,8,24,0,64,192,448,960,1984,4032,0,0,24576,57344,0,0,393216,917504,2097151,0,8388607] mo ?_
   iterate 10 refine ChM.pu ?_
   iterate 2 refine ChM.gi ?_
   iterate 10 refine ChM.pu ?_
   refine ChM.step rfl rfl rfl (zaB (k := 19) zc62) rfl ?_
   refine ChM.tl ?_
   refine Ex.mo ?_
   apply Ex.nil
   exact X.imp Imp.ax hJ17
  refine X.seqJ ⟨[(11, intsA (mkC m l ch)), (12, boolsA (mkA m l ch)), (14, tmsA (duV m l mi)), (15, .own 201), (18, iv ((itK l (mkC m l ch) (mkA m l ch) (duV m l mi) k).length : Int)), (19, .ptr 19 0 0 0), (47, sgsA l), (48, iv l.length), (49, iv (k : Int))], [(201, .row itE (itK l (mkC m l ch) (mkA m l ch) (duV m l mi) k) 62 12), (19, .box [iv k, iv s.Value, .bool (decide (s.Kind = 2)), .bool (decide (s.Kind = 1) && s.Color), .bool false, iv x, iv z.N, iv z.D, iv 0, iv 1, iv 0, iv 1] 62)]⟩ (fun hJ18 => ?_) ?_
  ·apply X.region
   iterate 3 refine Ex.pu ?_
   refine Ex.mo ?_
   refine Ex.pu ?_
   refine Ex.mo ?_
   apply Ex.nil
   exact X.imp Imp.ax hJ18
  apply X.seq
  apply X.block
  apply X.seq
  apply X.block
  apply X.seq
  apply X.block
  iterate 2 apply X.seq
  apply X.sr
  iterate 4 refine Ex.pu ?_
  refine Ex.pn ?_
  refine X.cd rfl ?_ ?_<;>intro hc6
  ·rw [← zoQ hc6] at hst
   apply X.exit
   apply X.sr
   iterate 3 refine Ex.pu ?_
   refine Ex.ca (zd7 z ⟨3, 2⟩) ?_
   iterate 4 refine Ex.pu ?_
   refine Ex.mo ?_
   refine Ex.pu ?_
   apply Ex.ns
   refine Ex.pu ?_
   refine Ex.pn ?_
   refine X.cd rfl ?_ ?_<;>intro hc7
   ·exact absurd hmul hc7
   apply X.skip
   apply X.sr
   refine Ex.pu ?_
   refine Ex.mo ?_
   apply Ex.nil
   apply X.exit
   apply X.region
   iterate 2 refine Ex.pu ?_
   refine Ex.bs itE [itL k s true x (mulV z ⟨3, 2⟩)] ?_
   refine Ex.mo ?_
   refine Ex.pn ?_
   apply X.region
   refine Ex.pu ?_
   refine Ex.pn ?_
   refine X.bk (k + 1)
  apply X.skip
  apply X.seq
  apply X.sr
  iterate 2 refine Ex.pu ?_
  refine Ex.pn ?_
  refine X.cd rfl ?_ ?_<;>intro hc8
  ·apply X.skip
   refine X.cd rfl ?_ ?_<;>intro hc9
   ·rw [← zlr hc6 (.inl hc8)] at hst
    apply X.exit
    apply X.sr
    refine Ex.pu ?_
    refine Ex.mo ?_
    apply Ex.nil
    apply X.exit
    apply X.region
    iterate 2 refine Ex.pu ?_
    refine Ex.bs itE [itL k s true x z] ?_
    refine Ex.mo ?_
    refine Ex.pn ?_
    apply X.region
    refine Ex.pu ?_
    refine Ex.pn ?_
    refine X.bk (k + 1)
   exact absurd hc8 hc9
  ·apply X.sr
   iterate 2 refine Ex.pu ?_
   refine Ex.pn ?_
   refine X.cd rfl ?_ ?_<;>intro hc10
   ·apply X.skip
    refine X.cd rfl ?_ ?_<;>intro hc11
    ·rw [← zlr hc6 (.inr (.inl (by unfold clr; rw [decide_eq_true hc11.1, hc11.2]; rfl)))] at hst
     apply X.exit
     apply X.sr
     refine Ex.pu ?_
     refine Ex.mo ?_
     apply Ex.nil
     apply X.exit
     apply X.region
     iterate 2 refine Ex.pu ?_
     refine Ex.bs itE [itL k s true x z] ?_
     refine Ex.mo ?_
     refine Ex.pn ?_
     apply X.region
     refine Ex.pu ?_
     refine Ex.pn ?_
     refine X.bk (k + 1)
    exact absurd hc11 (fun hc11 => hc11.elim (fun h => h hc10.1) (fun h => by rw [hc10.2] at h; cases h))
   ·apply X.region
    iterate 5 refine Ex.pu ?_
    refine Ex.pn ?_
    refine X.cd rfl ?_ ?_<;>intro hc12
    ·rw [← zlr hc6 (.inr (.inr hc12))] at hst
     apply X.exit
     apply X.sr
     refine Ex.pu ?_
     refine Ex.mo ?_
     apply Ex.nil
     apply X.exit
     apply X.region
     iterate 2 refine Ex.pu ?_
     refine Ex.bs itE [itL k s true x z] ?_
     refine Ex.mo ?_
     refine Ex.pn ?_
     apply X.region
     refine Ex.pu ?_
     refine Ex.pn ?_
     refine X.bk (k + 1)
    rw [← zoR hc6 hc8 (by unfold clr; rcases hc10 with h | h <;> simp [h]) hc12] at hst
    apply X.skip
    apply X.exit
    apply X.region
    iterate 2 refine Ex.pu ?_
    refine Ex.bs itE [itL k s false x z] ?_
    refine Ex.mo ?_
    refine Ex.pn ?_
    apply X.region
    refine Ex.pu ?_
    refine Ex.pn ?_
    refine X.bk (k + 1)
 ·have hkl : k = l.length := by omega
  subst hkl
  apply X.exit
  apply X.sr
  iterate 2 refine Ex.pu ?_
  refine Ex.pn ?_
  refine X.ret ?_
  refine RetQ.imp (Imp.freeze (k := 201) rfl) ?_
  refine RetQ.r2 ?_ ?_
  all_goals (first | (rw [hV]; done) | (rw [hE]; done) | (rw [hV]; rfl) | (rw [hE]; rfl))
end Go.Rse
namespace Go.Rse
open Go Go.Proofs
attribute [local irreducible] Pur StepA StepM Ex X Fn Imp LeV LeB FnO It YStep
attribute [local irreducible] mnsD ckD
end Go.Rse
namespace Go.Rse
open Go Go.Proofs
attribute [local irreducible] Pur StepA StepM Ex X Fn Imp LeV LeB FnO It YStep
attribute [local irreducible] mkC mkA mkE duV duE itK itOf ckD mulV mulE rmE
end Go.Rse
namespace Go.Rse
open Go Go.Proofs
attribute [local irreducible] Pur StepA StepM Ex X Fn Imp LeV LeB FnO It YStep
attribute [local irreducible] ckD ruleD twos prL
set_option maxHeartbeats 4000000 in
theorem zg7 (m : Mn) (l : List Sg) (hl : l.length <= 1000) : Fn Tryz.prog 32 [mnA m, sgsA l] (.tup [intsA (if ckD m l = 0 then ruleD m l else []), intsA (twos (prL m l).length), iv (ckD m l)]) := by
 refine Fn.go Tryz.func32 Tryz.ntmps32 (fun g w d => ?_)
 apply X.sr
 refine Ex.ba ?_
 iterate 3 refine Ex.pu ?_
 apply Ex.ns
 iterate 2 refine Ex.pu ?_
 refine Ex.ca (zia m l hl) ?_
 iterate 4 refine Ex.pu ?_
 refine Ex.pn ?_
 apply X.seq
 apply X.sr
 refine Ex.pu ?_
 refine Ex.pn ?_
 refine X.cd rfl ?_ ?_<;>intro hc1
 ·have ht : [] = twos (prL m l).length := by rw [zkO hc1]; unfold twos; rfl
  have hr : [] = (if ckD m l = 0 then ruleD m l else []) := by rw [if_neg hc1]
  apply X.sr
  iterate 3 refine Ex.pu ?_
  refine Ex.pn ?_
  refine X.ret ?_
  refine RetQ.imp (Imp.au (ts := [(4, intsA []), (5, intsA []), (6, iv (ckD m l))]) (hs := [])) ?_
  refine RetQ.ret (.many (by decide) (.cons (.tmp rfl (LeV.eq ?_)) (.cons (.tmp rfl (LeV.eq ?_)) (.cons (.tmp rfl (LeV.eq ?_)) .nil))))
  all_goals (first | exact congrArg intsA ht | exact congrArg intsA hr | rfl)
 apply X.skip
 apply X.sr
 iterate 2 refine Ex.pu ?_
 refine Ex.ca (zgg m l hl) ?_
 iterate 4 refine Ex.pu ?_
 refine Ex.pn ?_
 apply X.seq
 apply X.sr
 refine Ex.pu ?_
 refine Ex.pn ?_
 refine X.cd rfl ?_ ?_<;>intro hc2
 ·exact absurd hc1 hc2
 apply X.skip
 apply X.sr
 iterate 4 refine Ex.pu ?_
 refine Ex.pn ?_
 refine X.ret ?_
 refine RetQ.ret (.many (by decide) (.cons (.tmp rfl (LeV.eq ?_)) (.cons (.tmp rfl (LeV.eq ?_)) (.cons (.tmp rfl (LeV.eq ?_)) .nil))))
 all_goals (first | rfl | exact congrArg (AV.int .i64) hc1.symm)
end Go.Rse
namespace Go.Rse
open Go Go.Proofs
attribute [local irreducible] Pur StepA StepM Ex X Fn Imp LeV LeB FnO It YStep
attribute [local irreducible] ckD ruleD twos prL mnsD
end Go.Rse
namespace Go.Rse
open Go Go.Proofs Go.RowKit
attribute [local irreducible] Pur StepA StepM Ex X Fn Imp LeV LeB FnO It YStep
theorem ckDR {m : Mn} {l : List Sg} (h : ckR m l = 0) : ckD m l = 0 := by rw [zpC]; exact h
theorem prR {m : Mn} {l : List Sg} {pr : List Int} (h : ckR m l = 0) (h2 : pairL m l = pr) : prL m l = pr := by unfold prL; rw [if_pos (ckDR h)]; exact h2
theorem zke (m : Mn) (l : List Sg) (ch mi : List Int) : (itmV m l ch mi).length <= l.length := by
 unfold itmV; split
 ·rw [ziR]; exact ziN l _
 ·simp
attribute [local irreducible] itmE itmV ruleD ckD twos prL
theorem zct (a b : List Ite) (hl : a.length <= 4000000000) : Fn Tryz.prog 23 [itsA a, itsA b] (.bool (decide (a = b))) := by
 refine Fn.go Tryz.func23 Tryz.ntmps23 (fun g w d => ?_)
 apply X.sr
 refine Ex.pn ?_
 apply X.seq
 apply X.sr
 iterate 4 refine Ex.pu ?_
 refine Ex.pn ?_
 refine X.cd rfl ?_ ?_<;>intro hc1
 ·apply X.sr
  refine Ex.pn ?_
  refine X.ret ?_
  refine RetQ.r1 ?_
  all_goals (congr 1; exact (decide_eq_false fun e => by subst e; omega).symm)
 apply X.skip
 apply X.seq
 apply X.sr
 refine Ex.pn ?_
 apply X.block
 refine X.lp (ι := Nat) (fun (k : Nat) => [(0, itsA a), (1, itsA b), (5, iv (k : Int))]) (fun (k : Nat) => []) (fun (k : Nat) => k <= a.length /\ a.take k = b.take k) (fun (k : Nat) => a.length - k) 0 (fun k hk => ?_) (hJ := by
  exact ⟨by omega, rfl⟩)
 obtain ⟨hk1, hk2⟩ := hk
 apply X.seq
 apply X.sr
 iterate 3 refine Ex.pu ?_
 refine Ex.pn ?_
 refine X.cd rfl ?_ ?_<;>intro hc2
 ·obtain ⟨x, hx⟩ : ∃ x, a[k]? = some x := ⟨_, Go.Rse.L.gg (by omega)⟩
  have hx2 : a[(k : Int).toNat]? = some x := by simpa using hx
  obtain ⟨y, hy⟩ : ∃ y, b[k]? = some y := ⟨_, Go.Rse.L.gg (by omega)⟩
  have hy2 : b[(k : Int).toNat]? = some y := by simpa using hy
  apply X.skip
  apply X.seq
  apply X.block
  apply X.seq
  refine X.dw [17,18,19,20,21,22,23,24,25] [0,0,3,7,0,0,48,112,255] mo ?_
  iterate 8 refine ChM.pu ?_
  refine ChM.pu ?_ (hs := by exact zdL (zlp _ _) inferInstance TyK.h rfl rfl rfl rfl rfl)
  refine ChM.tl ?_
  apply Ex.nil
  refine X.cd rfl ?_ ?_<;>intro hc3
  ·apply X.sr
   refine Ex.pn ?_
   refine X.ret ?_
   refine RetQ.r1 ?_
   all_goals (congr 1; exact (decide_eq_false (zlt hx hy (by simpa using hc3))).symm)
  apply X.skip
  apply X.region
  iterate 2 refine Ex.pu ?_
  refine Ex.pn ?_
  refine X.bk (k + 1) (hJ := by
   exact ⟨by omega, zey hx (by rw [hy]; congr 1; first | exact (by simpa using hc3 : x = y).symm | (simp at hc3; exact hc3.symm)) hk2⟩)
 ·apply X.exit
  apply X.sr
  refine Ex.pn ?_
  refine X.ret ?_
  refine RetQ.r1 ?_
  all_goals (congr 1; exact (decide_eq_true (zg9 (by omega) (by omega) hk2)).symm)
theorem zfm (a : List Ite) (h : a.length <= 4000000000) : Fn Tryz.prog 23 [itsA a, itsA a] (.bool true) := by
 have := zct a a h; simpa using this
end Go.Rse
