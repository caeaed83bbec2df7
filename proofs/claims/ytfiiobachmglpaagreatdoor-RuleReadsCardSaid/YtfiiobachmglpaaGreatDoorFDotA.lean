/-
  Walks: what dots mean.
  Walks: the dots of a run.
  Walks: the first fault of a run.
  Walks: the meanings of all dots.
  Walks: how many lists of meanings.
-/
import Derived.Test.YtfiiobachmglpaaGreatDoorFJShelf1
import Derived.Test.YtfiiobachmglpaaGreatDoorFLogB
import Derived.Test.YtfiiobachmglpaaGreatDoorFMens2
set_option linter.unusedSimpArgs false
set_option linter.unusedVariables false
namespace Go.Rse
open Go Go.Proofs
attribute [local irreducible] Pur yK yM Ex X Fn Imp LeV LeB FnO It yW
def coll (p : Int -> Bool) (l : List Int) : List Int := Lib.compact (srtI (dl (fun v => !p v) l))
theorem zfd (p : Int -> Bool) (l : List Int) : (coll p l).length <= l.length := Nat.le_trans (Lib.compact_length_le _) (by rw [zfl]; exact List.length_filter_le _ _)
theorem zge (p : Int -> Bool) (l : List Int) : (dl p l).length <= l.length := List.length_filter_le _ _
theorem zet (fp : FuncId) (p : Int -> Bool) (v : Int) (hp : Fn Tryz.prog fp [iv v] (.bool (p v))) : Fn Tryz.prog 260 [iv v, .ept (fun _ : Unit => [.fn fp []]) () 0] (.bool (!p v)) := by
 refine Fn.go Tryz.func260 Tryz.ntmps260 (fun g w d => ?_);apply yb;refine ya ?_;apply yn;iterate 2 refine ya ?_
 refine yr hp ?_;refine yh ?_;refine X.ret ?_;refine ym ?_;all_goals (first | rfl | (simp_all; done))
theorem za7 (l : List Int) (hl : l.length <= 4000000000) (fp : FuncId) (p : Int -> Bool) (hp : ∀ v, v ∈ l -> Fn Tryz.prog fp [iv v] (.bool (p v))) : Fn Tryz.prog 216 [yg l, .fn fp []] (yg (coll p l)) := by
 refine Fn.go Tryz.func216 Tryz.ntmps216 (fun g w d => ?_);apply yb;refine zeH ?_;refine ya ?_;apply yn;refine ya ?_;refine za5 [(5, 6)] (zbj l hl) rfl rfl rfl (LeL.refl _) rfl rfl trivial rfl rfl rfl rfl ?_;refine ze (y8 (k := 3) rfl rfl) ?_;refine zbr (zeZ rfl) rfl ?_;refine za5 [(2000000, 6), (2000002, 8)] (zhk 2000002 (zbO l hl 260 [.ept (fun _ : Unit => [.fn fp []]) () 0] (fun v => !p v) rfl (fun v hv => zet fp p v (hp v hv))) rfl) rfl rfl rfl (LeL.refl _) rfl rfl ⟨⟨_, _, rfl, rfl, LeB.refl _, rfl⟩, trivial⟩ rfl rfl rfl rfl ?_;refine ya ?_;apply yn;refine ya ?_;refine za5 [(2000000, 8)] (zdq (dl (fun v => !p v) l) (Nat.le_trans (zge _ _) hl)) rfl rfl rfl (LeL.refl _) rfl rfl ⟨⟨_, _, rfl, rfl, LeB.refl _, rfl⟩, trivial⟩ rfl rfl rfl rfl ?_;apply yn;refine ya ?_;refine za5 [(2000000, 8), (2000002, 12)] (zhk 2000002 (zcx (srtI (dl (fun v => !p v) l)) (by rw [zfl]; exact Nat.le_trans (zge _ _) hl)) rfl) rfl rfl rfl (LeL.refl _) rfl rfl ⟨⟨_, _, rfl, rfl, LeB.refl _, rfl⟩, trivial⟩ rfl rfl rfl rfl ?_;refine ye ?_;refine X.ret ?_;refine yu (Imp.freeze (k := 12) rfl) ?_;refine ym ?_;all_goals (first | rfl | (simp_all; done))
def Mn.aV (m : Mn) (v : Int) : Int := if ckMV m v = 0 then m.ab v else 0
def Mn.pV (m : Mn) (v : Int) : Int := if ckMV m v = 0 then m.p v else 0
def posI (v : Int) : Bool := decide (0 < v)
def mngs (m : Mn) (s : Sg) : List Int :=
 if s.Kind = 2 then coll posI [m.aV s.Value] else if s.Color then [0] else if m.pV s.Value = 3 then coll posI [s.Value, m.aV s.Value] else 0 :: coll posI [m.aV s.Value]
theorem zbm (v : Int) : Fn Tryz.prog 215 [iv v] (.bool (posI v)) := by
 refine Fn.go Tryz.func215 Tryz.ntmps215 (fun g w d => ?_);apply yb;refine ya ?_;apply yn;refine yp ?_;refine X.ret ?_;refine ym ?_;all_goals (first | rfl | (simp_all; done))
theorem zdA (m : Mn) (s : Sg) : Fn Tryz.prog 140 [mnA m, sgA s] (yg (mngs m s)) := by
 refine Fn.go Tryz.func140 Tryz.ntmps140 (fun g w d => ?_);apply yb;iterate 2 refine yH ?_
 refine ya ?_;apply yn;iterate 3 refine ya ?_
 refine yr (zfJ m s.Value) ?_;iterate 5 refine ya ?_
 apply yn;iterate 3 refine ya ?_
 refine yr (zdg m s.Value) ?_;iterate 5 refine ya ?_
 apply yn;refine ye ?_;apply yd;apply X.block;apply yb;refine yX ?_;refine yk rfl ?_ ?_<;>intro hc1
 ·apply yb;refine ya ?_;refine yO intE [_] ?_;refine ya ?_;refine ze (Imp.freeze (k := 29) rfl) ?_;refine Ex.call rfl rfl rfl (za7 [m.aV s.Value] (by simp) _ posI (fun v _ => zbm v)) rfl ?_;refine ye ?_;refine X.ret ?_;refine ym ?_;all_goals (simp [mngs, hc1])
 apply yb;refine yp ?_;refine yk rfl ?_ ?_<;>intro hc2
 ·apply yb;refine yO intE [_] ?_;refine ye ?_;refine X.ret ?_;refine yu (Imp.freeze (k := 35) rfl) ?_;refine ym ?_;all_goals (simp [mngs, *]; rfl)
 apply yb;refine yp ?_;refine yk rfl ?_ ?_<;>intro hc3
 ·have hc4 : m.pV s.Value = 3 := hc3;apply yb;iterate 3 refine ya ?_
  refine yO intE [_, _] ?_;refine ya ?_;refine ze (Imp.freeze (k := 42) rfl) ?_;refine Ex.call rfl rfl rfl (za7 [s.Value, m.aV s.Value] (by simp) _ posI (fun v _ => zbm v)) rfl ?_;refine ye ?_;refine X.ret ?_;refine ym ?_;all_goals (simp [mngs, hc1, hc2, hc4])
 have hc4 : ¬ m.pV s.Value = 3 := hc3;have hcl : (coll posI [m.aV s.Value]).length <= 1 := zfd _ _;apply yf;apply yb;refine yO intE [_] ?_;refine ya ?_;refine yO intE [_] ?_;refine ya ?_;refine ze (Imp.freeze (k := 47) rfl) ?_;refine Ex.call rfl rfl rfl (za7 [m.aV s.Value] (by simp) _ posI (fun v _ => zbm v)) rfl ?_;refine yi ?_;refine ye ?_;refine X.ret ?_;refine yu (Imp.freeze (k := 45) rfl) ?_;refine ym ?_;all_goals (simp [mngs, *]; rfl)
end Go.Rse
namespace Go.Rse
open Go Go.Proofs
attribute [local irreducible] Pur yK yM Ex X Fn Imp LeV LeB FnO It yW
def yU (l : List Sg) : Nat -> List Int
 | 0 => []
 | k + 1 => yU l k ++ (match l[k]? with | some s => if s.Kind = 3 then [(k : Int)] else [] | none => [])
theorem zaY (l : List Sg) : ∀ k, (yU l k).length <= k
 | 0 => Nat.le_refl _
 | k + 1 => by
  have := zaY l k;simp only [yU, List.length_append];split
  ·split <;> simp <;> omega
  ·simp; omega
theorem zgV (l : List Sg) (hl : l.length <= 1000) : Fn Tryz.prog 150 [sgsA l] (yg (yU l l.length)) := by
 refine Fn.go Tryz.func150 Tryz.ntmps150 (fun g w d => ?_);apply yb;refine ya ?_;apply yn;refine ye ?_;iterate 2 apply yd
 refine y3 (yZ intE 3 1 3 3 rfl rfl) ?_;apply yc;refine yp ?_;apply X.block;refine y9 (ι := Nat) (fun (k : Nat) => [(3, .own 3), (6, sgsA l), (7, iv l.length), (8, iv (k : Int))]) (fun (k : Nat) => [(3, .row intE (yU l k) 3 1)]) (fun (k : Nat) => k <= l.length) (fun (k : Nat) => l.length - k) 0 (fun k hk => ?_);apply yb;refine ye ?_;apply yd;refine yk rfl ?_ ?_<;>intro hc1
 ·obtain ⟨s, hs⟩ : ∃ s, l[k]? = some s := ⟨_, lgg (by omega)⟩;have hs2 : l[(k : Int).toNat]? = some s := by simpa using hs
  have hdl := zaY l k;apply yf;apply yd;apply X.block;apply yb;iterate 3 refine ya ?_
  refine yJ ?_;refine ya ?_;refine yi ?_;apply yn;refine yp ?_;refine yk rfl ?_ ?_<;>intro hc2
  ·have hrow2 : yU l k ++ [(k : Int)] = yU l (k + 1) := by simp [yU, hs, hc2]
   apply yc;(iterate 2 refine ya ?_);refine yO intE [_] ?_;refine yi ?_;refine ye ?_;apply yc;refine yh ?_;refine yL (k + 1)
  ·have hrow2 : yU l k = yU l (k + 1) := by simp [yU, hs, hc2]
   apply yf;apply yc;refine yh ?_;refine yL (k + 1)
 ·have hk2 : k = l.length := by omega
  subst hk2;apply X.exit;apply yb;refine yh ?_;refine X.ret ?_;refine yu (Imp.freeze (k := 3) rfl) ?_;refine ym ?_;all_goals (first | rfl | (simp_all; done))
end Go.Rse
namespace Go.Rse
open Go Go.Proofs
attribute [local irreducible] Pur yK yM Ex X Fn Imp LeV LeB FnO It yW
def sgF (m : Mn) (l : List Sg) (k : Nat) (s : Sg) : Int :=
 if s.Kind = 1 \/ s.Kind = 2 then (if 1 <= s.Value /\ s.Value <= 8 then 0 else 2)
 else if s.Kind = 3 then (match k with | 0 => 13 | j + 1 => match l[j]? with | some p => if p.Kind = 3 \/ (mngs m p).length = 0 then 13 else 0 | none => 13)
 else 8
def z7 (m : Mn) (l : List Sg) : Nat -> List Sg -> Int
 | _, [] => 0
 | k, s :: r => if sgF m l k s = 0 then z7 m l (k + 1) r else sgF m l k s
def ckD (m : Mn) (l : List Sg) : Int := if ckM m = 0 then z7 m l 0 l else ckM m
theorem zcE {m : Mn} {l : List Sg} {k : Nat} {s : Sg} (h : l[k]? = some s) (h0 : sgF m l k s = 0) : z7 m l k (l.drop k) = z7 m l (k + 1) (l.drop (k + 1)) := by
 have hk : k < l.length := (List.getElem?_eq_some_iff.1 h).1;rw [List.drop_eq_getElem_cons hk];have : l[k] = s := (List.getElem?_eq_some_iff.1 h).2;rw [this]; simp only [z7, h0, if_true]
theorem zbn {m : Mn} {l : List Sg} {k : Nat} {s : Sg} (h : l[k]? = some s) (h0 : sgF m l k s ≠ 0) : z7 m l k (l.drop k) = sgF m l k s := by
 have hk : k < l.length := (List.getElem?_eq_some_iff.1 h).1;rw [List.drop_eq_getElem_cons hk];have : l[k] = s := (List.getElem?_eq_some_iff.1 h).2;rw [this]; simp only [z7, if_neg h0]
theorem zkT {m : Mn} {l : List Sg} {k : Nat} {s : Sg} (hk : k < l.length) (h3 : s.Kind = 3) : sgF m l k s = if ((k : Int) = 0 \/ (l.getD ((k : Int) - 1).toNat default).Kind = 3) \/ ((mngs m (l.getD ((k : Int) - 1).toNat default)).length : Int) = 0 then 13 else 0 := by
 unfold sgF;rw [if_neg (by omega), if_pos h3];cases k with
 | zero => simp
 | succ j =>
  have e : (((j + 1 : Nat) : Int) - 1).toNat = j := by omega
  have hp : l[j]? = some (l.getD j default) := by rw [List.getD_eq_getElem?_getD, lgg (by omega)]; rfl
  rw [e]; simp only [hp];generalize l.getD j default = p;by_cases h1 : p.Kind = 3
  ·simp [h1]
  ·by_cases h2 : (mngs m p).length = 0
   ·rw [if_pos (.inr h2), if_pos (.inr (by omega))]
   ·rw [if_neg (by omega), if_neg (by omega)]
theorem zcn (m : Mn) (l : List Sg) (hl : l.length <= 1000) : Fn Tryz.prog 78 [mnA m, sgsA l] (iv (ckD m l)) := by
 refine Fn.go Tryz.func78 Tryz.ntmps78 (fun g w d => ?_);apply yb;refine yH ?_;refine ye ?_;apply yd;apply yb;refine ya ?_;refine yr (zdf m) ?_;refine ya ?_;apply yn;refine yh ?_;refine yk rfl ?_ ?_<;>intro hc1
 ·apply yb;refine yh ?_;refine X.ret ?_;refine ym ?_;all_goals (first | rfl | (unfold ckD; rw [if_neg hc1]))
 apply yf;apply yd;apply yb;refine yp ?_;apply X.block
 refine y9 (ι := Nat) (fun (k : Nat) => [(1, sgsA l), (2, .ptr 2 0 0 0), (13, sgsA l), (14, iv l.length), (15, iv (k : Int))]) (fun (k : Nat) => [(2, .box (mnE m) 23)]) (fun (k : Nat) => k <= l.length /\ ckD m l = z7 m l k (l.drop k)) (fun (k : Nat) => l.length - k) 0 (fun k hk => ?_) (hJ := by
  exact ⟨by omega, by unfold ckD; rw [if_pos hc1]; rfl⟩)
 obtain ⟨hk1, hk2⟩ := hk;apply yb;refine ye ?_;apply yd;refine yk rfl ?_ ?_<;>intro hc2
 ·obtain ⟨s, hs⟩ : ∃ s, l[k]? = some s := ⟨_, lgg (by omega)⟩;have hs2 : l[(k : Int).toNat]? = some s := by simpa using hs
  apply yf;apply yd;apply X.block;apply yb;iterate 3 refine ya ?_
  refine yJ ?_;refine ya ?_;refine yi ?_;apply yn;refine yh ?_;apply X.block;apply yd;apply yb;refine yh ?_;refine yk rfl ?_ ?_<;>intro hc3
  ·apply yf;refine yk rfl ?_ ?_<;>intro hc4
   ·apply yb;(iterate 3 refine ya ?_);refine ExF.at 3 ?_;refine yC ?_;(iterate 3 refine ExF.gi ?_);refine yA ?_;refine ye ?_;refine yk rfl ?_ ?_<;>intro hc5
    ·have hF : sgF m l k s = 2 := by unfold sgF; rw [if_pos (.inl hc3), if_neg (by omega)]
     apply yb;refine ye ?_;refine X.ret ?_;refine ym ?_;all_goals (rw [hk2, zbn hs (by rw [hF]; decide), hF])
    have h0 : sgF m l k s = 0 := by unfold sgF; rw [if_pos (.inl hc3), if_pos (by omega)]
    apply yf;apply yc;refine yh ?_
    refine yL (k + 1) (hJ := by
     exact ⟨by omega, by rw [hk2, zcE hs h0]⟩)
   ·exact absurd hc3 hc4
  ·apply yc;refine yh ?_;refine yk rfl ?_ ?_<;>intro hc6
   ·apply yb;(iterate 3 refine ya ?_);refine ExF.at 3 ?_;refine yC ?_;(iterate 3 refine ExF.gi ?_);refine yA ?_;refine ye ?_;refine yk rfl ?_ ?_<;>intro hc7
    ·have hF : sgF m l k s = 2 := by unfold sgF; rw [if_pos (.inr hc6), if_neg (by omega)]
     apply yb;refine ye ?_;refine X.ret ?_;refine ym ?_;all_goals (rw [hk2, zbn hs (by rw [hF]; decide), hF])
    have h0 : sgF m l k s = 0 := by unfold sgF; rw [if_pos (.inr hc6), if_pos (by omega)]
    apply yf;apply yc;refine yh ?_
    refine yL (k + 1) (hJ := by
     exact ⟨by omega, by rw [hk2, zcE hs h0]⟩)
   ·apply yb;refine yh ?_;refine yk rfl ?_ ?_<;>intro hc8
    ·apply yd;refine zi [35,36,37,38,39,40,41,42,43,44,45,46,47,48,49,50,51,52,53,54,55,56] [0,1,3,7,7,23,63,127,255,511,1023,2047,4095,4095,4095,20479,61439,126975,262143,524287,1048575,2097151] mo ?_;(iterate 3 refine yj ?_);(iterate 7 refine ChM.gi ?_);(iterate 2 refine yj ?_);(iterate 6 refine ChM.gi ?_);refine ChM.cg (zdA m _) ?_;(iterate 2 refine ChM.gi ?_);refine yj ?_;refine yR ?_;apply Ex.nil;refine yk rfl ?_ ?_<;>intro hc9
     ·have hF : sgF m l k s = 13 := by rw [zkT (by omega) hc8, if_pos hc9]
      apply yb;refine ye ?_;refine X.ret ?_;refine ym ?_;all_goals (rw [hk2, zbn hs (by rw [hF]; decide), hF])
     have h0 : sgF m l k s = 0 := by rw [zkT (by omega) hc8, if_neg (fun h => by omega)]
     apply yf;apply yc;refine yh ?_
     refine yL (k + 1) (hJ := by
      exact ⟨by omega, by rw [hk2, zcE hs h0]⟩)
    ·have hF : sgF m l k s = 8 := by unfold sgF; rw [if_neg (by omega), if_neg (by omega)]
     apply yb;refine ye ?_;refine X.ret ?_;refine ym ?_;all_goals (rw [hk2, zbn hs (by rw [hF]; decide), hF])
 ·apply X.exit;apply yb;refine ye ?_;refine X.ret ?_;refine ym ?_;all_goals (rw [hk2, List.drop_of_length_le (by omega)]; rfl)
end Go.Rse
namespace Go.Rse
open Go Go.Proofs
attribute [local irreducible] Pur yK yM Ex X Fn Imp LeV LeB FnO It yW
theorem zab {m : Mn} {l : List Sg} (h : z7 m l 0 l = 0) : ∀ k, k <= l.length -> z7 m l k (l.drop k) = 0 /\ ∀ i s, i < k -> l[i]? = some s -> sgF m l i s = 0
 | 0, _ => ⟨h, fun i s hi => absurd hi (Nat.not_lt_zero i)⟩
 | k + 1, hk => by
  obtain ⟨h1, h2⟩ := zab h k (by omega);have hs : l[k]? = some l[k] := lgg (by omega)
  have h0 : sgF m l k l[k] = 0 := by
   by_cases h0 : sgF m l k l[k] = 0
   ·exact h0
   ·rw [zbn hs h0] at h1; exact h1
  refine ⟨by rw [← zcE hs h0]; exact h1, fun i s hi he => ?_⟩;rcases Nat.lt_succ_iff_lt_or_eq.1 hi with h3 | h3
  ·exact h2 i s h3 he
  ·subst h3; rw [hs] at he; injection he with he; subst he; exact h0
theorem zeg {m : Mn} {l : List Sg} (h : z7 m l 0 l = 0) : ∀ k, k <= l.length -> ∀ x, x ∈ yU l k -> ∃ (j : Nat) (s p : Sg), x = ((j + 1 : Nat) : Int) /\ l[j + 1]? = some s /\ l[j]? = some p
 | 0, _, x, hx => by simp [yU] at hx
 | k + 1, hk, x, hx => by
  simp only [yU, List.mem_append] at hx;rcases hx with hx | hx
  ·exact zeg h k (by omega) x hx
  ·have hs : l[k]? = some l[k] := lgg (by omega);simp only [hs] at hx;split at hx
   ·rename_i hK;have h0 := (zab h (k + 1) hk).2 k _ (by omega) hs;simp at hx;cases k with
    | zero => unfold sgF at h0; rw [if_neg (by omega), if_pos hK] at h0; simp at h0
    | succ j => exact ⟨j, _, _, hx, hs, lgg (by omega)⟩
   ·simp at hx
def zdB (l : List Sg) (i : Int) : Option Sg := l[(i - 1).toNat]?
def mnAt (m : Mn) (l : List Sg) (i : Int) : List Int := match zdB l i with | some p => mngs m p | none => []
def mnsD (m : Mn) (l : List Sg) : List (List Int) := (yU l l.length).map (mnAt m l)
theorem zl7 {m : Mn} {l : List Sg} {L : List Int} {k : Nat} {x : Int} {p : Sg} (h : L[k]? = some x) (hp : l[(x - 1).toNat]? = some p) : (L.take k).map (mnAt m l) ++ [mngs m p] = (L.take (k + 1)).map (mnAt m l) := by
 have e : mnAt m l x = mngs m p := by unfold mnAt zdB; rw [hp]
 rw [List.take_add_one, h];simp [e]
theorem C_dot_Meanings (m : Mn) (l : List Sg) (hl : l.length <= 1000) : Fn Tryz.prog 148 [mnA m, sgsA l] (.tup [zb9 (if ckD m l = 0 then mnsD m l else []), iv (ckD m l)]) := by
 refine Fn.go Tryz.func148 Tryz.ntmps148 (fun g w d => ?_);apply yb;refine yH ?_;refine yh ?_;apply yd;apply yb;iterate 2 refine ya ?_
 refine yr (zcn m l hl) ?_;refine ya ?_;apply yn;refine yh ?_;refine yk rfl ?_ ?_<;>intro hc1
 ·apply yb;refine yp ?_;refine X.ret ?_;refine yu (yl (ts := [(4, zb9 []), (5, iv (ckD m l))]) (hs := [])) ?_;refine yz ?_ ?_;all_goals (first | (simp [hc1]; done) | (rw [if_pos hc1, ← hfin]; rfl) | (rw [if_neg hc1]) | (rw [hc1]; rfl) | rfl)
 apply yf;apply yb;refine ye ?_;iterate 2 apply yd
 refine y3 (yZ zhq 27 1 7 7 rfl rfl) ?_
 have hcf : z7 m l 0 l = 0 := by unfold ckD at hc1; split at hc1
                                 ·exact hc1
                                 ·exact absurd hc1 (by assumption)
 apply yc;refine ya ?_;refine yr (zgV l hl) ?_;refine yh ?_;apply X.block;have hdl := zaY l l.length;refine y9 (ι := Nat) (fun (k : Nat) => [(1, sgsA l), (2, .ptr 2 0 0 0), (7, .own 7), (17, yg (yU l l.length)), (18, iv (yU l l.length).length), (19, iv (k : Int)), (5, iv 0)]) (fun (k : Nat) => [(2, .box (mnE m) 23), (7, .row zhq (((yU l l.length).take k).map (mnAt m l)) 27 1)]) (fun (k : Nat) => k <= (yU l l.length).length) (fun (k : Nat) => (yU l l.length).length - k) 0 (fun k hk => ?_);apply yb;refine ye ?_;apply yd;refine yk rfl ?_ ?_<;>intro hc2
 ·obtain ⟨x, hx⟩ : ∃ x, (yU l l.length)[k]? = some x := ⟨_, lgg (by omega)⟩;have hx2 : (yU l l.length)[(k : Int).toNat]? = some x := by simpa using hx
  obtain ⟨j, s, p, hj1, hj2, hj3⟩ := zeg hcf l.length (Nat.le_refl _) x (List.mem_of_getElem? hx);have hjl : j + 1 < l.length := (List.getElem?_eq_some_iff.1 hj2).1;have hp : l[(x - 1).toNat]? = some p := by rw [show (x - 1).toNat = j by omega]; exact hj3
  have hrow2 := zl7 (m := m) hx hp;have htl : (((yU l l.length).take k).map (mnAt m l)).length <= 1000 := by simp; omega
  apply yf;apply yd;apply X.block;apply yb;refine yp ?_;refine zi [23,24,25,26,27,28,29,30,31] [0,0,0,0,8,28,60,126,254,511,1023] mo ?_;iterate 7 refine yj ?_
  refine zj (zdA m _) ?_;refine ChM.step rfl rfl rfl (yT (k := 31) (enc := zhq) (l := [_]) zqa ty27 ze27 (by decide) rfl rfl rfl rfl (by decide) (by decide) (fun _ => rfl) rfl) rfl ?_;refine yR ?_;refine yi ?_;refine ye ?_;apply yc;refine yh ?_;refine yL (k + 1)
 ·have hkl : k = (yU l l.length).length := by omega
  subst hkl;have hfin : ((yU l l.length).take (yU l l.length).length).map (mnAt m l) = mnsD m l := by rw [List.take_length]; rfl
  apply X.exit;apply yb;refine yp ?_;refine X.ret ?_;refine yu (Imp.freeze (k := 7) rfl) ?_;refine yz ?_ ?_;all_goals (first | (simp [hc1]; done) | (rw [if_pos hc1, ← hfin]; rfl) | (rw [if_neg hc1]) | (rw [hc1]; rfl) | rfl)
end Go.Rse
namespace Go.Rse
open Go Go.Proofs
attribute [local irreducible] Pur yK yM Ex X Fn Imp LeV LeB FnO It yW
theorem zmu (m : Mn) (s : Sg) : (mngs m s).length <= 2 := by
 unfold mngs;split
 ·exact Nat.le_trans (zfd _ _) (by simp)
 ·split
  ·simp
  ·split
   ·exact zfd _ _
   ·have := zfd posI [m.aV s.Value]; simp at this ⊢; omega
theorem zh3 {m : Mn} {l : List Sg} {x : List Int} (h : x ∈ mnsD m l) : x.length <= 2 := by
 obtain ⟨i, _, rfl⟩ := List.mem_map.1 h;unfold mnAt;split
 ·exact zmu _ _
 ·simp
theorem zfe (m : Mn) (l : List Sg) : (mnsD m l).length <= l.length := by simpa [mnsD] using zaY l l.length
end Go.Rse
