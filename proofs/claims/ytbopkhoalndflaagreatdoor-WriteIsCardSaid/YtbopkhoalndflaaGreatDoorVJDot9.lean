/-
  Walks.
-/
import Derived.Test.YtbopkhoalndflaaGreatDoorVJDot6
set_option linter.all false
namespace Go.Rse
open Go Go.Proofs Go.Proofs.Tryz
section
attribute [local irreducible] Pur yu yq Ex X Fn Imp LeV LeB FnO It yD
def mkK (ch : List Int) (l : List Sg) : Nat -> List Int × List Bool × Nat
 | 0 => ([], [], 0)
 | k + 1 => match l[k]? with
  | some s => if s.Kind = 3 then ((mkK ch l k).1.set (((mkK ch l k).1.length : Int) - 1).toNat (ch.getD (mkK ch l k).2.2 0), (mkK ch l k).2.1.set (((mkK ch l k).2.1.length : Int) - 1).toNat (decide (ch.getD (mkK ch l k).2.2 0 = 0)), (mkK ch l k).2.2 + 1) else ((mkK ch l k).1 ++ [0], (mkK ch l k).2.1 ++ [false], (mkK ch l k).2.2)
  | none => mkK ch l k
def zhI {ch : List Int} {l : List Sg} {k : Nat} {s : Sg} (h : l[k]? = some s) (Z : s.Kind = 3) : mkK ch l (k + 1) = ((mkK ch l k).1.set (((mkK ch l k).1.length : Int) - 1).toNat (ch.getD (mkK ch l k).2.2 0), (mkK ch l k).2.1.set (((mkK ch l k).2.1.length : Int) - 1).toNat (decide (ch.getD (mkK ch l k).2.2 0 = 0)), (mkK ch l k).2.2 + 1) := by
 simp only [mkK, h, j4 Z]
def zf3 {ch : List Int} {l : List Sg} {k : Nat} {s : Sg} (h : l[k]? = some s) (Z : ¬ s.Kind = 3) : mkK ch l (k + 1) = ((mkK ch l k).1 ++ [0], (mkK ch l k).2.1 ++ [false], (mkK ch l k).2.2) := by
 simp only [mkK, h, j3 Z]
theorem zhJ (ch : List Int) (l : List Sg) : ∀ k, (mkK ch l k).1.length = (mkK ch l k).2.1.length /\ (mkK ch l k).1.length <= k /\ (mkK ch l k).2.2 = (yU l k).length
 | 0 => ⟨rfl, jC _, rfl⟩
 | k + 1 => by
  obtain ⟨V, T, U⟩ := zhJ ch l k;cases hs : l[k]? with
  | none => simp only [mkK, yU, hs, wE]; exact ⟨V, by omega, U⟩
  | some s =>
   by_cases Z : s.Kind = 3
   ·rw [zhI hs Z]; simp [yU, hs, Z]; omega
   ·rw [zf3 hs Z]; simp [yU, hs, Z]; omega
def zfx (l : List Sg) : ∀ (n k : Nat), k <= n -> (yU l k).length <= (yU l n).length
 | 0, k, h => by have : k = 0 := by omega
                 subst this; exact jC _
 | n + 1, k, h => by
  rcases w6 n k with Z | Z
  ·have : k = n + 1 := by omega
   subst this; exact jC _
  ·have := zfx l n k Z;simp only [yU, jJ]; omega
def zkf {m : Mn} {ch : List Int} {l : List Sg} (h : zan m l 0 l = 0) : ∀ k, 1 <= k -> k <= l.length -> 1 <= (mkK ch l k).1.length
 | 0, U, _ => by omega
 | k + 1, _, V => by
  obtain ⟨s, hs⟩ : ∃ s, l[k]? = some s := ⟨_, lgg (by omega)⟩;by_cases Z : s.Kind = 3
  ·rw [zhI hs Z];simp only [List.length_set];rcases xJ k with h0 | h0
   ·subst h0;have := (zas h 1 V).2 0 s (by omega) hs;unfold sgF at this;rw [j3 (by omega), j4 Z] at this;simp at this
   ·exact zkf h k h0 (by omega)
  ·rw [zf3 hs Z]; simp
def zmY {m : Mn} {l : List Sg} (h : zan m l 0 l = 0) {k : Nat} {s : Sg} (hs : l[k]? = some s) (Z : s.Kind = 3) : 1 <= k := by
 rcases xJ k with h0 | h0
 ·subst h0;have := (zas h 1 (j1.1 hs).1).2 0 s (by omega) hs;unfold sgF at this;rw [j3 (by omega), j4 Z] at this;simp at this
 ·exact h0
def zh5 {m : Mn} {l : List Sg} (h : ckD m l = 0) : zan m l 0 l = 0 := by
 unfold ckD at h; split at h
 ·exact h
 ·exact absurd h (by assumption)
def chOk (ch : List Int) (L : List (List Int)) : Prop := ((L.zip ch).all fun p => decide (p.2 ∈ p.1)) = true
instance (ch : List Int) (L : List (List Int)) : Decidable (chOk ch L) := inferInstanceAs (Decidable (_ = true))
theorem zed {ch : List Int} {L : List (List Int)} : chOk ch L ↔ ∀ (i : Nat) x v, L[i]? = some x -> ch[i]? = some v -> v ∈ x := by
 unfold chOk;rw [jB];constructor
 ·intro h i x v hx hv;have := h (x, v) (jP.2 ⟨i, List.getElem?_zip_eq_some.2 ⟨hx, hv⟩⟩);simpa using this
 ·rintro h ⟨x, v⟩ Z
  obtain ⟨i, hi⟩ := jP.1 Z;obtain ⟨V, U⟩ := List.getElem?_zip_eq_some.1 hi;simpa using h i x v V U
def mkE (m : Mn) (l : List Sg) (ch : List Int) : Int := if ckD m l = 0 then (if (mnsD m l).length = ch.length /\ chOk ch (mnsD m l) then 0 else 2) else ckD m l
def mkC (m : Mn) (l : List Sg) (ch : List Int) : List Int := if mkE m l ch = 0 then (mkK ch l l.length).1 else []
def mkA (m : Mn) (l : List Sg) (ch : List Int) : List Bool := if mkE m l ch = 0 then (mkK ch l l.length).2.1 else []
def ds9 : List (List Bool) := [0, 1, 2, 8, 16, 3, 9, 17, 10, 18, 24, 7, 11, 19, 25, 26, 15, 23, 27, 31, 63, 127, 255].map fun n => (List.range 8).map fun i => n.testBit i
def st9 (ch : List Int) (l : List Sg) (k : Nat) (D : List Bool) : St :=
 let b := fun i => D.getD i false
 ⟨[(2, yc ch), (13, .ptr 13 0 0 0), (14, .ptr 14 0 0 0), (15, .fn 251 [.ptr 13 0 0 0, .ptr 14 0 0 0]), (16, iv ((mkK ch l k).2.2 : Int)), (49, sgsA l), (50, iv l.length), (51, iv (k : Int))] ++ cond (b 0 && !b 2) [(66, .own 101)] [] ++ cond (b 1 && !b 2) [(67, .own 67)] [] ++ cond (b 2 && !b 6) [(68, .own 101)] [] ++ cond (b 3 && !b 5) [(69, .own 102)] [] ++ cond (b 4 && !b 5) [(70, .own 70)] [] ++ cond (b 5 && !b 7) [(71, .own 102)] [],
  cond (b 1 && !b 2) [(67, .row intE [0] 3 1)] [] ++ cond (b 4 && !b 5) [(70, .row za6 [false] 4 1)] [] ++ [(13, .box [cond (b 2 && !b 6) .any (.own 101)] 46), (14, .box [cond (b 5 && !b 7) .any (.own 102)] 107), (101, .row intE (cond (b 2) ((mkK ch l k).1 ++ [0]) (mkK ch l k).1) 3 1), (102, .row za6 (cond (b 5) ((mkK ch l k).2.1 ++ [false]) (mkK ch l k).2.1) 4 1)]⟩
set_option maxHeartbeats 4000000 in
set_option maxRecDepth 100000 in
def zlh (m : Mn) (l : List Sg) (hl : l.length <= 1000) (ch : List Int) : Fn prog 188 [mnA m, sgsA l, yc ch] (.tup [yc (mkC m l ch), zaQ (mkA m l ch), iv (mkE m l ch)]) := by
 obtain ⟨L0, hX, hM⟩ : ∃ L0, (ckD m l = 0 -> L0 = mnsD m l) /\ Fn prog 246 [mnA m, sgsA l] (.tup [zcX L0, iv (ckD m l)]) := ⟨_, fun h => j4 h, C_dot_Meanings m l hl⟩;refine xV func188 ntmps188 (fun g w d => ?_);refine gc hM ?_;refine gd ?_ ?_<;>intro Z
 ·have hE : mkE m l ch = ckD m l := by unfold mkE; rw [j3 Z]
  have U : mkC m l ch = [] := by unfold mkC; rw [j3 (by rw [hE]; exact Z)]
  have T : mkA m l ch = [] := by unfold mkA; rw [j3 (by rw [hE]; exact Z)]
  apply ye;refine ya ?_;refine yy ?_;refine xU ?_;refine xQ (yd (ts := [(6, yc []), (7, zaQ []), (8, iv (ckD m l))]) (hs := [])) ?_;refine k7 (.many (by decide) (.cons (.tmp rfl (xR ?_)) (.cons (.tmp rfl (xR ?_)) (.cons (.tmp rfl (xR ?_)) .nil))));all_goals (first | exact zE U | exact zE T | exact zE hE)
 have xT := hX Z;subst xT;have v5 := zgp m l;have J := zh5 Z;have v4 : (mnsD m l).length = (yU l l.length).length := by simp [mnsD]
 refine gd ?_ ?_<;>intro v3
 ·have hE : mkE m l ch = 2 := by unfold mkE; rw [j4 Z, j3 (fun h => by have := h.1; omega)]
  have U : mkC m l ch = [] := by unfold mkC; rw [j3 (by omega)]
  have T : mkA m l ch = [] := by unfold mkA; rw [j3 (by omega)]
  apply ye;refine yy ?_;refine xU ?_;refine xQ (yd (ts := [(6, yc []), (7, zaQ []), (8, iv 2)]) (hs := [])) ?_;refine k7 (.many (by decide) (.cons (.tmp rfl (xR ?_)) (.cons (.tmp rfl (xR ?_)) (.cons (.tmp rfl (xR ?_)) .nil))));all_goals (first | exact zE U | exact zE T | exact zE hE)
 apply yl;apply yg;apply ye;refine yy ?_;apply xS;refine zX (fun k => [(1, sgsA l), (2, yc ch), (9, zcX (mnsD m l)), (33, zcX (mnsD m l)), (34, iv (mnsD m l).length), (35, iv (k : Int))]) (fun k => []) (fun k => k <= (mnsD m l).length /\ ∀ i, i < k -> ∀ x v, (mnsD m l)[i]? = some x -> ch[i]? = some v -> v ∈ x) ((mnsD m l).length) (fun k hk => ?_) (hJ := by exact ⟨by omega, fun i h => absurd h (wN i)⟩) (h0 := yd);obtain ⟨v0, I⟩ := hk;refine gd ?_ ?_<;>intro u3
 ·obtain ⟨x, hx⟩ : ∃ x, (mnsD m l)[k]? = some x := ⟨_, lgg (by omega)⟩;have u2 : (mnsD m l)[(k : Int).toNat]? = some x := by simpa using hx
  obtain ⟨c, Q⟩ : ∃ c, ch[k]? = some c := ⟨_, lgg (by omega)⟩;have v9 : ch[(k : Int).toNat]? = some c := by simpa using Q
  have u1 := zjN (j6 hx);refine gc (yS x c (by omega)) ?_;refine gd ?_ ?_<;>intro H
  ·have hE : mkE m l ch = 2 := by unfold mkE; rw [j4 Z, j3 (fun h => H (zed.1 h.2 k x c hx Q))]
   have U : mkC m l ch = [] := by unfold mkC; rw [j3 (by omega)]
   have T : mkA m l ch = [] := by unfold mkA; rw [j3 (by omega)]
   apply ye;refine yy ?_;refine xU ?_;refine xQ (yd (ts := [(6, yc []), (7, zaQ []), (8, iv 2)]) (hs := [])) ?_;refine k7 (.many (by decide) (.cons (.tmp rfl (xR ?_)) (.cons (.tmp rfl (xR ?_)) (.cons (.tmp rfl (xR ?_)) .nil))));all_goals (first | exact zE U | exact zE T | exact zE hE)
  refine gq ?_
  refine yw (k + 1) (hJ := by
   refine ⟨by omega, fun i hi x1 v1 G E => ?_⟩;rcases jZ.1 hi with h | h
   ·exact I i h x1 v1 G E
   ·subst h; rw [hx] at G; rw [Q] at E; injection G with G; injection E with E; subst G; subst E; exact H)
 ·have hok : chOk ch (mnsD m l) := zed.2 fun i x v hx hv => I i (by have := (j1.1 hx).1; omega) x v hx hv
  have hE : mkE m l ch = 0 := by unfold mkE; rw [j4 Z, j4 ⟨by omega, hok⟩]
  have U : mkC m l ch = (mkK ch l l.length).1 := by unfold mkC; rw [j4 hE]
  have T : mkA m l ch = (mkK ch l l.length).2.1 := by unfold mkA; rw [j4 hE]
  apply k8;apply ye;refine zh ?_;apply yE;refine zh ?_;apply k9;apply yg;refine xZ (zbZ intE 3 1 13 101 46 rfl rfl) ?_;refine xZ (zbZ za6 4 1 14 102 107 rfl rfl) ?_;apply yi;iterate 2 refine ya ?_
  apply yE;refine yh ?_;apply yg;apply ye;refine yy ?_;apply xS;refine zq (fun k => [(2, yc ch), (13, .ptr 13 0 0 0), (14, .ptr 14 0 0 0), (15, .fn 251 [.ptr 13 0 0 0, .ptr 14 0 0 0]), (16, iv ((mkK ch l k).2.2 : Int)), (49, sgsA l), (50, iv l.length), (51, iv (k : Int))]) (fun k => [(13, .box [.own 101] 46), (14, .box [.own 102] 107), (101, .row intE (mkK ch l k).1 3 1), (102, .row za6 (mkK ch l k).2.1 4 1)]) l.length (fun k hk => ?_) (h0 := yd);refine gd ?_ ?_<;>intro kZ
  ·obtain ⟨s, hs⟩ : ∃ s, l[k]? = some s := ⟨_, lgg (by omega)⟩;have kY : l[(k : Int).toNat]? = some s := by simpa using hs
   obtain ⟨kX, kW, kV⟩ := zhJ ch l k;refine gd ?_ ?_<;>intro V
   ·have N := zhI (ch := ch) hs V;have kU := zfx l l.length (k + 1) (by omega);have kT : (yU l (k + 1)).length = (yU l k).length + 1 := by simp [yU, hs, V]
    have x4 := zmY J hs V;have v8 := zkf (ch := ch) J k x4 (by omega);have k5 : ch[((mkK ch l k).2.2 : Int).toNat]? = some (ch.getD (mkK ch l k).2.2 0) := by rw [wJ, jA, lgg (by omega)]; rfl
    have x3 : (mkK ch l k).1.set (((mkK ch l k).1.length : Int) - 1).toNat (ch.getD (mkK ch l k).2.2 0) = (mkK ch l (k + 1)).1 := by rw [N]
    have x2 : (mkK ch l k).2.1.set (((mkK ch l k).2.1.length : Int) - 1).toNat (decide (ch.getD (mkK ch l k).2.2 0 = 0)) = (mkK ch l (k + 1)).2.1 := by rw [N]
    have x0 : ((mkK ch l k).2.2 : Int) + 1 = ((mkK ch l (k + 1)).2.2 : Int) := by rw [N]; simp
    apply ye;(iterate 5 refine ya ?_);refine zbs [(2000000, 13), (2000001, 14), (2000002, 101), (2000003, 102)] (zjf (ch.getD (mkK ch l k).2.2 0) (mkK ch l k).1 (mkK ch l k).2.1 (by omega) (by omega) (by omega) (by omega)) rfl rfl rfl (kE _) rfl rfl ⟨⟨_, _, rfl, rfl, kA _, rfl⟩, ⟨_, _, rfl, rfl, kA _, rfl⟩, ⟨_, _, rfl, rfl, kA _, rfl⟩, ⟨_, _, rfl, rfl, kA _, rfl⟩, trivial⟩ rfl rfl rfl rfl ?_;refine gq ?_;refine yw (k + 1)
   have N := zf3 (ch := ch) hs V;have x3 : (mkK ch l k).1 ++ [0] = (mkK ch l (k + 1)).1 := by rw [N]
   have x2 : (mkK ch l k).2.1 ++ [false] = (mkK ch l (k + 1)).2.1 := by rw [N]
   have x0 : ((mkK ch l k).2.2 : Int) = ((mkK ch l (k + 1)).2.2 : Int) := by rw [N]
   apply yl;refine zqP (ds9.map (st9 ch l k)) ds9 [(0, 0, 1), (0, 1, 2), (0, 3, 3), (0, 4, 4), (1, 1, 5), (1, 3, 6), (1, 4, 7), (2, 0, 5), (2, 3, 8), (2, 4, 9), (3, 0, 6), (3, 1, 8), (3, 4, 10), (4, 0, 7), (4, 1, 9), (4, 3, 10), (5, 2, 11), (5, 3, 12), (5, 4, 13), (6, 1, 12), (6, 4, 14), (7, 1, 13), (7, 3, 14), (8, 0, 12), (8, 4, 15), (9, 0, 13), (9, 3, 15), (10, 0, 14), (10, 1, 15), (11, 3, 16), (11, 4, 17), (12, 2, 16), (12, 4, 18), (13, 2, 17), (13, 3, 18), (14, 1, 18), (15, 0, 18), (16, 4, 19), (17, 3, 19), (18, 2, 19), (19, 5, 20), (20, 6, 21), (21, 7, 22)] 22 mo rfl rfl yd (by kernel_rfl) rfl (by kernel_rfl) rfl ?_ ?_
   ·repeat' (first | exact True.intro | refine ⟨⟨_, _, rfl, rfl, yQ rfl (yq.imp (yP (xO (zae rfl rfl rfl ty46)) rfl rfl) yd)⟩, ?_⟩ | refine ⟨⟨_, _, rfl, rfl, yQ rfl (yq.imp (yP (zM (k := 67) (enc := intE) (l := [0]) sl46 ty3 ze3 (by decide) rfl rfl rfl rfl (by decide) (by decide) (fun _ => rfl) rfl) rfl rfl) yd)⟩, ?_⟩ | refine ⟨⟨_, _, rfl, rfl, yQ rfl (yq.imp (yP (xO (zae rfl rfl rfl zc2)) rfl rfl) yd)⟩, ?_⟩ | refine ⟨⟨_, _, rfl, rfl, yQ rfl (yq.imp (yP (zM (k := 70) (enc := za6) (l := [false]) zeP ty4 ze4 (by decide) rfl rfl rfl rfl (by decide) (by decide) (fun _ => rfl) rfl) rfl rfl) yd)⟩, ?_⟩ | refine ⟨⟨_, _, rfl, rfl, yQ rfl (yq.imp (zdV (enc := intE) (l := (mkK ch l k).1) (l2 := [0]) rfl rfl rfl rfl sl46 ti3 (by decide) (by decide) (fun _ => rfl) (fun _ => rfl) (by simp; omega) rfl) yd)⟩, ?_⟩ | refine ⟨⟨_, _, rfl, rfl, yQ rfl (yq.imp (zdV (enc := za6) (l := (mkK ch l k).2.1) (l2 := [false]) rfl rfl rfl rfl zeP ti4 (by decide) (by decide) (fun _ => rfl) (fun _ => rfl) (by simp; omega) rfl) yd)⟩, ?_⟩ | refine ⟨⟨_, _, rfl, rfl, yQ rfl (yq.imp (zal rfl rfl rfl rfl ty46 (ltB rfl)) yd)⟩, ?_⟩ | refine ⟨⟨_, _, rfl, rfl, yQ rfl (yq.imp (zal rfl rfl rfl rfl zc2 (ltB rfl)) yd)⟩, ?_⟩)
   refine gq ?_;refine yw (k + 1)
  ·have w2 : k = l.length := by omega
   subst w2;refine gq ?_;refine yW [6,7,8,73,74] [0,0,1,7,15] mo ?_;(iterate 5 refine yb ?_);refine yA ?_;apply k9;refine xU ?_;refine xQ ((xP (k := 101) rfl).trans (xP (k := 102) rfl)) ?_;refine k7 (.many (by decide) (.cons (.tmp rfl (xR ?_)) (.cons (.tmp rfl (xR ?_)) (.cons (.tmp rfl (xR ?_)) .nil))));all_goals (first | exact zE U | exact zE T | exact zE hE)
end
section
attribute [local irreducible] Pur yu yq Ex X Fn Imp LeV LeB FnO It yD
def zoY (o : Option Sg) : frB o = !(o.isSome && clr (zmX o)) := by cases o <;> simp [frB, zmX]
def zli {l : List Sg} {i : Int} (h : (((((l.length : Int) <= i + 1 \/ clr (l.getD i.toNat default) = false) \/ ¬ (l.getD i.toNat default).Value = 4) \/ clr (l.getD (i + 1).toNat default) = false) \/ ¬ (l.getD (i + 1).toNat default).Value = 5)) : zaB l i = false := by
 unfold zaB;rcases h with (((h | h) | h) | h) | h
 ·rw [j9 (show ¬ i + 1 < (l.length : Int) by omega)]; simp
 ·rw [h]; simp
 ·rw [j9 h]; simp
 ·rw [h]; simp
 ·rw [j9 h]; simp
def zos {l : List Sg} {i : Int} (h : i + 2 < (l.length : Int) /\ (l.getD (i + 2).toNat default).Kind = 3) : zaB l i = false := by
 unfold zaB; rw [jI h.1, jI h.2]; simp
def zjy {l : List Sg} {i : Int} (h : (((i + 1 < (l.length : Int) /\ clr (l.getD i.toNat default) = true) /\ (l.getD i.toNat default).Value = 4) /\ clr (l.getD (i + 1).toNat default) = true) /\ (l.getD (i + 1).toNat default).Value = 5) : zaB l i = (!(decide (i + 2 < (l.length : Int)) && decide ((l.getD (i + 2).toNat default).Kind = 3)) && frB (zc7 l (-1) (i - 1)) && frB (zc7 l 1 (i + 2))) := by
 unfold zaB;rw [jI h.1.1.1.1, h.1.1.1.2, jI h.1.1.2, h.1.2, jI h.2]; rfl
attribute [local irreducible] zaB zc7 frB zmX clr
def zf4 (l : List Sg) (hl : l.length <= 4000000000) (i : Int) (h0 : 0 <= i) (V : i < (l.length : Int)) : Fn prog 326 [sgsA l, iv i] (.bool (zaB l i)) := by
 refine xV func326 ntmps326 (fun g w d => ?_);apply ye;refine yh ?_;apply yg;apply ye;iterate 5 refine ya ?_
 refine xX 5 ?_;refine gq ?_;refine kK (za8 _) ?_;refine gq ?_;refine kK (za8 _) ?_;refine xW ?_;iterate 2 refine ym ?_
 iterate 7 refine xW ?_
 refine gf ?_ ?_<;>intro Z
 ·refine gq ?_;all_goals (rw [zli Z])
 apply yl;apply ye;iterate 5 refine ya ?_
 refine xX 5 ?_;refine ym ?_;iterate 7 refine xW ?_
 refine zdF ?_;iterate 2 refine ya ?_
 apply yE;iterate 2 refine ya ?_
 refine xX 2 ?_;refine gq ?_;refine kK (zf2 l hl (i - 1) (-1) (.inr rfl) (by omega) (by omega) (by omega)) ?_;refine gq ?_;refine kK (zf2 l hl (i + 2) 1 (.inl rfl) (by omega) (by omega) (by omega)) ?_;refine ge ?_;all_goals (rw [zjy Z])
def zfy (m : Mn) (l : List Sg) (hl : l.length <= 4000000000) (i : Int) (h0 : 0 <= i) (Q : i < (l.length : Int)) : Fn prog 319 [mnA m, sgsA l, iv i] (.bool (decide (m.p 4 = 2) && zaB l i)) := by
 refine xV func319 ntmps319 (fun g w d => ?_);apply ye;refine zF ?_;refine yh ?_;apply yg;apply ye;iterate 5 refine ya ?_
 refine xX 5 ?_;refine gq ?_;refine kK (zv _) ?_;refine gq ?_;refine kK (zv _) ?_;refine gq ?_;refine kK (yX m 4) ?_;refine xW ?_;refine gf ?_ ?_<;>intro Z
 ·have V : (decide (m.p 4 = 2) && zaB l i) = false := by
   rcases Z with h | h
   ·rw [zli h]; simp
   ·rw [j9 h]; rfl
  refine gq ?_;all_goals rw [V]
 apply yl;apply yg;apply ye;iterate 5 refine ya ?_
 refine xX 5 ?_;refine ym ?_;iterate 7 refine xW ?_
 refine gf ?_ ?_<;>intro U
 ·have V := zos U;refine gq ?_;all_goals (rw [V]; simp)
 have V := zjy Z.1
 have T : (decide (i + 2 < (l.length : Int)) && decide ((l.getD (i + 2).toNat default).Kind = 3)) = false := by
  rcases U with h | h
  ·rw [j9 (show ¬ i + 2 < (l.length : Int) by omega)]; rfl
  ·rw [j9 h]; simp
 rw [T, zoY, zoY] at V;refine gc (zcx l hl (i - 1) (-1) (.inr rfl) (by omega) (by omega) (by omega)) ?_;refine yM (zcx l hl (i + 2) 1 (.inl rfl) (by omega) (by omega) (by omega)) ?_;iterate 3 refine ya ?_
 refine zh ?_;refine xY ?_;refine ya ?_;apply yE;refine ya ?_;refine xX 1 ?_;refine gq ?_;refine kK (zv _) ?_;refine gq ?_;refine kK (zv _) ?_;iterate 2 refine xW ?_
 refine ge ?_;all_goals (rw [V, jI Z.2]; rfl)
end
section
theorem zlj (a : Int) : coll posI [a] = if 0 < a then [a] else [] := by
 unfold coll dl posI srtI;by_cases h : 0 < a
 ·simp only [h, if_true, u4, decide_true, xL, Bool.not_false, List.filter_nil, List.mergeSort_singleton];rfl
 ·simp only [h, if_false, u4, decide_false, xL, Bool.not_false, List.filter_nil, List.mergeSort_nil];simp [Lib.compact, Lib.compactUpTo]
def srt2 {a v : Int} (h : a < v) : srtI [v, a] = [a, v] := by
 simp_all [srtI, List.mergeSort]
theorem zoZ {v a : Int} (hv : 0 < v) (Z : a < v) : coll posI [v, a] = if 0 < a then [a, v] else [v] := by
 unfold coll;by_cases h : 0 < a
 ·have e : dl (fun v => !posI v) [v, a] = [v, a] := by simp [dl, posI, h, hv]
  rw [e, srt2 Z, j4 h];have V : ¬ v = a := by omega
  have U : ¬ a = v := by omega
  simp [Lib.compact, Lib.compactUpTo, Lib.keeps, List.range_succ, V, U]
 simp_all [dl, posI, srtI, Lib.compact, Lib.compactUpTo, Lib.keeps]
def zuP (m : Mn) {v : Int} (h : 1 <= v) : 0 <= m.ab v /\ m.ab v < v := by
 unfold Mn.ab;cases e : (perfL m).find? fun k => decide (k < v) <;> grind [perfL]
def p23 {m : Mn} {v : Int} (Z : ckM m = 0) : m.p v = 2 \/ m.p v = 3 := by
 have V : m.Ok := by
  unfold ckM at Z; split at Z
  ·assumption
  ·omega
 obtain ⟨a, b, c, d⟩ := V
 grind [two3, Mn.p]
theorem zjz {m : Mn} {v : Int} (Z : ckM m = 0) (V : 1 <= v) (U : v <= 8) : ckMV m v = 0 := by
 simp_all [ckM, ckMV]
def zmh {m : Mn} {v : Int} (Z : 1 <= v) : 0 <= m.aV v /\ m.aV v < v := by
 have := zuP m Z
 grind [Mn.aV]
def mngR (m : Mn) (s : Sg) : List Int :=
 if s.Kind = 2 then [m.aV s.Value] else if s.Color = true then [0] else if m.p s.Value = 2 /\ m.aV s.Value = 0 then [0] else if m.p s.Value = 2 then [0, m.aV s.Value] else if m.aV s.Value = 0 then [s.Value] else [m.aV s.Value, s.Value]
theorem zo0 {m : Mn} {s : Sg} (Z : ckM m = 0) (V : 1 <= s.Value) (U : s.Value <= 8) (T : ¬ (s.Kind = 2 /\ m.aV s.Value = 0)) : mngs m s = mngR m s := by
 have Q := zmh (m := m) V;have N := p23 (m := m) (v := s.Value) Z
 grind [Mn.pV, zjz, mngs, mngR, zlj, zoZ]
theorem zgR {m : Mn} {s : Sg} (Z : ckM m = 0) (V : 1 <= s.Value) (U : s.Value <= 8) : (mngs m s).length = 0 ↔ (s.Kind = 2 /\ m.aV s.Value = 0) := by
 grind [zo0, mngR, mngs, zlj]
def sgR (m : Mn) (l : List Sg) (k : Nat) (s : Sg) : Int :=
 if s.Kind = 1 \/ s.Kind = 2 then (if 1 <= s.Value /\ s.Value <= 8 then 0 else 2)
 else if s.Kind = 3 then (match k with | 0 => 13 | j + 1 => match l[j]? with | some p => if p.Kind = 3 \/ (p.Kind = 2 /\ m.aV p.Value = 0) then 13 else 0 | none => 13)
 else 8
def zcl (m : Mn) (l : List Sg) : Nat -> List Sg -> Int
 | _, [] => 0
 | k, s :: r => if sgR m l k s = 0 then zcl m l (k + 1) r else sgR m l k s
def ckR (m : Mn) (l : List Sg) : Int := if ckM m = 0 then zcl m l 0 l else ckM m
theorem zdH {m : Mn} {l : List Sg} {k : Nat} {s : Sg} (h : l[k]? = some s) (h0 : sgR m l k s = 0) : zcl m l k (l.drop k) = zcl m l (k + 1) (l.drop (k + 1)) := by
 grind [List.drop_eq_getElem_cons, zcl]
theorem zbk {m : Mn} {l : List Sg} {k : Nat} {s : Sg} (h : l[k]? = some s) (h0 : sgR m l k s ≠ 0) : zcl m l k (l.drop k) = sgR m l k s := by
 grind [List.drop_eq_getElem_cons, zcl]
theorem zmZ {m : Mn} {l : List Sg} {k : Nat} {s : Sg} (h0 : sgF m l k s = 0) (Z : s.Kind ≠ 3) : (s.Kind = 1 \/ s.Kind = 2) /\ 1 <= s.Value /\ s.Value <= 8 := by
 simp_all [sgF]; omega
def zwU {m : Mn} {l : List Sg} {k : Nat} {s : Sg} (T : ckM m = 0) (hs : l[k]? = some s) (I : ∀ i s, i < k -> l[i]? = some s -> sgF m l i s = 0) : sgF m l k s = sgR m l k s := by
 unfold sgF sgR;by_cases h : s.Kind = 1 \/ s.Kind = 2
 ·omega
 ·rw [j3 h, j3 h];by_cases Q : s.Kind = 3
  ·rw [j4 Q, j4 Q];cases k with
   | zero => rfl
   | succ j =>
    cases U : l[j]? with
    | none => simp only [U]
    | some p =>
     simp only [U];by_cases Z : p.Kind = 3
     ·rw [j4 (.inl Z), j4 (.inl Z)]
     ·obtain ⟨_, N, J⟩ := zmZ (I j p (by omega) U) Z;by_cases V : (mngs m p).length = 0
      ·rw [j4 (.inr V), j4 (.inr ((zgR T N J).1 V))]
      ·rw [j3 (fun h => h.elim Z V), j3 (fun h => h.elim Z (fun h => V ((zgR T N J).2 h)))]
  omega
def zlk {m : Mn} {l : List Sg} (U : ckM m = 0) : ∀ (n k : Nat), l.length - k = n -> k <= l.length -> (∀ i s, i < k -> l[i]? = some s -> sgF m l i s = 0) -> zan m l k (l.drop k) = zcl m l k (l.drop k)
 | 0, k, T, Q, V => by
  rw [w4 (by omega)]; rfl
 | n + 1, k, T, Q, V => by
  have hs : l[k]? = some l[k] := lgg (by omega);have he := zwU U hs V;by_cases h0 : sgF m l k l[k] = 0
  ·rw [zdv hs h0, zdH hs (by rw [← he]; exact h0)];refine zlk U n (k + 1) (by omega) (by omega) fun i s hi Z => ?_
   rcases jZ.1 hi with h | h
   ·exact V i s h Z
   ·subst h; rw [hs] at Z; injection Z with Z; subst Z; exact h0
  grind [zbU, zbk]
theorem zm0 (m : Mn) (l : List Sg) : ckD m l = ckR m l := by
 unfold ckD ckR;by_cases Z : ckM m = 0
 ·rw [j4 Z, j4 Z];have := zlk (l := l) Z l.length 0 rfl (wF _) (fun i s h => absurd h (wN i));simpa using this
 omega
def zee {m : Mn} {l : List Sg} (h : ckD m l = 0) : ckM m = 0 /\ zan m l 0 l = 0 := by
 grind [ckD]
theorem zkg {m : Mn} {l : List Sg} (h : ckD m l = 0) {j : Nat} {s p : Sg} (hs : l[j + 1]? = some s) (U : s.Kind = 3) (T : l[j]? = some p) :
 p.Kind ≠ 3 /\ (p.Kind = 1 \/ p.Kind = 2) /\ 1 <= p.Value /\ p.Value <= 8 /\ ¬ (p.Kind = 2 /\ m.aV p.Value = 0) /\ mngs m p = mngR m p := by
 obtain ⟨Q, V⟩ := zee h;have Z := (zas V l.length (jC _)).2
 grind [sgF, zmZ, zgR, zo0]
def zh6 {l : List Sg} : ∀ (k : Nat) (x : Int), x ∈ yU l k -> ∃ (j : Nat) (s : Sg), x = (j : Int) /\ l[j]? = some s /\ s.Kind = 3
 | 0, x, hx => by simp [yU] at hx
 | k + 1, x, hx => by
  simp only [yU, wG] at hx;rcases hx with hx | hx
  ·exact zh6 k x hx
  grind
def zf5 (m : Mn) (l : List Sg) (i : Int) : List Int := match zes l i with | some p => mngR m p | none => []
def mnsR (m : Mn) (l : List Sg) : List (List Int) := (yU l l.length).map (zf5 m l)
def zkh {m : Mn} {l : List Sg} (h : ckD m l = 0) {x : Int} (hx : x ∈ yU l l.length) : ∃ (j : Nat) (s p : Sg), x = ((j + 1 : Nat) : Int) /\ l[j + 1]? = some s /\ s.Kind = 3 /\ l[j]? = some p /\ zes l x = some p := by
 obtain ⟨j, s, p, U, V, T⟩ := zeW (zee h).2 l.length (jC _) x hx;obtain ⟨j', s', N, Z, Q⟩ := zh6 l.length x hx;have : j' = j + 1 := by omega
 subst this;rw [V] at Z; injection Z with Z; subst Z;refine ⟨j, s, p, U, V, Q, T, ?_⟩;simp_all [zes]
theorem zuQ {m : Mn} {l : List Sg} (h : ckD m l = 0) : mnsD m l = mnsR m l := by
 refine v2 fun x hx => ?_
 obtain ⟨j, s, p, V, U, T, Q, Z⟩ := zkh h hx;unfold mnAt zf5;rw [Z]
 grind [zkg, mngR]
def ownV : List Int -> Int -> Int
 | [], _ => 0
 | x :: r, v => if x = 0 \/ x = v then x else ownV r v
def za9 (m : Mn) (l : List Sg) (i : Int) (p : Sg) : Int :=
 if (mngR m p).length = 1 then (mngR m p).headD 0 else if zh4 l i > p.Value then ownV (mngR m p) p.Value else m.aV p.Value
def zcm (m : Mn) (l : List Sg) (i : Int) : Int := match zes l i with | some p => za9 m l i p | none => 0
def zo1 (m : Mn) (l : List Sg) : List Int := (yU l l.length).map (zcm m l)
theorem zll {m : Mn} {l : List Sg} {i : Int} {p : Sg} (Z : ckM m = 0) (V : 1 <= p.Value) (U : p.Value <= 8) (he : mngs m p = mngR m p) : zbb m l i p = za9 m l i p := by
 have T := zmh (m := m) V;have Q := p23 (m := m) (v := p.Value) Z
 grind [Mn.pV, zjz, zbb, za9, mngR, ownV]
theorem zrk {m : Mn} {l : List Sg} (h : ckD m l = 0) : zm m l = zo1 m l := by
 refine v2 fun x hx => ?_
 obtain ⟨j, s, p, Q, Z, V, U, T⟩ := zkh h hx;obtain ⟨_, _, q1, q2, _, q3⟩ := zkg h Z V U;unfold zdg zcm;rw [T];exact zll (zee h).1 q1 q2 q3
end
end Go.Rse
