/-
  Walks.
-/
import Derived.Test.YtbopkhoalndflaaGreatDoorVJSlice1
set_option linter.all false
namespace Go.Rse
open Go Go.Proofs Go.Proofs.Tryz
section
attribute [local irreducible] Pur yu yq Ex X Fn Imp LeV LeB FnO It yD
def zh4 (l : List Sg) (i : Int) : Int := match l[(i + 1).toNat]? with | some s => s.Value | none => 9
def zbb (m : Mn) (l : List Sg) (i : Int) (p : Sg) : Int :=
 if (mngs m p).length = 2 then (if zh4 l i <= p.Value then m.aV p.Value else if m.pV p.Value = 3 then p.Value else 0) else (mngs m p).headD 0
def zdg (m : Mn) (l : List Sg) (i : Int) : Int := match zes l i with | some p => zbb m l i p | none => 0
def zm (m : Mn) (l : List Sg) : List Int := (yU l l.length).map (zdg m l)
def zor {m : Mn} {l : List Sg} {L : List Int} {k : Nat} {x : Int} {p : Sg} (h : L[k]? = some x) (Z : l[(x - 1).toNat]? = some p) : (L.take k).map (zdg m l) ++ [zbb m l x p] = (L.take (k + 1)).map (zdg m l) := by
 have e : zdg m l x = zbb m l x p := by unfold zdg zes; rw [Z]
 rw [jE, h];simp [e]
def zlg {m : Mn} {l : List Sg} (h : zan m l 0 l = 0) : ∀ k, k <= l.length -> ∀ x, x ∈ yU l k -> ∀ p, l[(x - 1).toNat]? = some p -> (mngs m p).length ≠ 0
 | 0, _, x, hx => by simp [yU] at hx
 | k + 1, U, x, hx => by
  simp only [yU, wG] at hx;rcases hx with hx | hx
  ·exact zlg h k (by omega) x hx
  ·have hs : l[k]? = some l[k] := lgg (by omega);simp only [hs] at hx;split at hx
   ·rename_i Z;have h0 := (zas h (k + 1) U).2 k _ (by omega) hs;simp at hx;intro p V;cases k with
    | zero => unfold sgF at h0; rw [j3 (by omega), j4 Z] at h0; simp at h0
    | succ j =>
     rw [show (x - 1).toNat = j by omega] at V;unfold sgF at h0;rw [j3 (by omega), j4 Z] at h0;simp only [V] at h0;intro T;rw [j4 (.inr T)] at h0;simp at h0
   ·simp at hx
def zoW {m : Mn} {l : List Sg} {k : Nat} {x : Int} {p : Sg} (h : (yU l l.length)[k]? = some x) (Z : l[(x - 1).toNat]? = some p) : (mnsD m l)[k]? = some (mngs m p) := by
 have e : mnAt m l x = mngs m p := by unfold mnAt zes; rw [Z]
 rw [mnsD, jK, h];simp [e]
def zke (l : List Sg) (hl : l.length <= 1000) (i : Int) (h0 : 0 <= i) (V : i <= 1000) : Fn prog 247 [iv i, .ept (fun _ : Unit => [sgsA l]) () 0] (iv (zh4 l i)) := by
 refine xV func247 ntmps247 (fun g w d => ?_);refine gd ?_ ?_<;>intro Z
 ·obtain ⟨s, hs⟩ : ∃ s, l[(i + 1).toNat]? = some s := ⟨_, lgg (by omega)⟩;refine gq ?_;all_goals (congr 1; unfold zh4; rw [hs])
 have hs : l[(i + 1).toNat]? = none := wL (by omega);refine gq ?_;all_goals (congr 1; unfold zh4; rw [hs])
def zmg (m : Mn) (l : List Sg) (hl : l.length <= 1000) : Fn prog 186 [mnA m, sgsA l] (.tup [yc (if ckD m l = 0 then zm m l else []), iv (ckD m l)]) := by
 refine xV func186 ntmps186 (fun g w d => ?_);refine gq ?_;refine zeL ?_;refine gc (C_dot_Meanings m l hl) ?_;refine gd ?_ ?_<;>intro Z
 ·apply ye;refine yy ?_;refine xU ?_;refine xQ (yd (ts := [(4, yc []), (5, iv (ckD m l))]) (hs := [])) ?_;refine yj ?_ ?_;all_goals (first | (simp [Z]; done) | (rw [j4 Z, ← T]; rfl) | (rw [j3 Z]) | exact zE Z | rfl)
 apply yl;apply yg;refine xZ (yZ (k := 3) rfl rfl) ?_;have H : (if ckD m l = 0 then mnsD m l else []) = mnsD m l := j4 Z;rw [H]
 have N : zan m l 0 l = 0 := by unfold ckD at Z; split at Z
                                ·exact Z
                                ·exact absurd Z (by assumption)
 apply yi;iterate 2 refine ya ?_
 apply yE;refine yh ?_;iterate 2 apply yg
 refine xZ (yF intE 3 1 9 9 rfl rfl) ?_;refine gq ?_;refine yM (zis l hl) ?_;refine yL ?_;apply xS;have x1 := zbT l l.length;refine zq (fun k => [(2, .ptr 2 0 0 0), (3, .ept (fun _ : Unit => [sgsA l]) () 0), (5, iv 0), (6, zcX (mnsD m l)), (8, .fn 247 [.ept (fun _ : Unit => [sgsA l]) () 0]), (9, .own 9), (29, yc (yU l l.length)), (30, iv (yU l l.length).length), (31, iv (k : Int))]) (fun k => [(2, .box (mnE m) 23), (9, .row intE (((yU l l.length).take k).map (zdg m l)) 3 1)]) ((yU l l.length).length) (fun k hk => ?_) (h0 := yd);refine gd ?_ ?_<;>intro x0
 ·obtain ⟨x, hx⟩ : ∃ x, (yU l l.length)[k]? = some x := ⟨_, lgg (by omega)⟩;have w2 : (yU l l.length)[(k : Int).toNat]? = some x := by simpa using hx
  obtain ⟨j, s, p, v9, G, E⟩ := zeW N l.length (jC _) x (j6 hx);have v8 : j + 1 < l.length := (j1.1 G).1;have hp : l[(x - 1).toNat]? = some p := by rw [show (x - 1).toNat = j by omega]; exact E
  have xT := zlg N l.length (jC _) x (j6 hx) p hp;have v5 : (mnsD m l)[(k : Int).toNat]? = some (mngs m p) := by simpa using zoW (m := m) hx hp
  obtain ⟨c0, J⟩ : ∃ c0, (mngs m p)[(0 : Int).toNat]? = some c0 := ⟨_, lgg (by simp; omega)⟩
  have x4 : (mngs m p).headD 0 = c0 := by
   cases hq : mngs m p with
   | nil => simp [hq] at xT
   | cons a b => simp [hq] at J; simp [J]
  have V := zor (m := m) hx hp;have v4 : (((yU l l.length).take k).map (zdg m l)).length <= 1000 := by simp; omega
  refine gd ?_ ?_<;>intro v3
  ·refine gc (zdT m p.Value) ?_;refine gc (zgw m p.Value) ?_;refine gc (zke l hl x (by omega) (by omega)) ?_;refine gd ?_ ?_<;>intro x3
   ·have U : zbb m l x p = m.aV p.Value := by unfold zbb; rw [j4 (by omega), j4 x3]
    rw [U] at V;refine gq ?_;refine yz intE [_] ?_;refine gq ?_;refine yw (k + 1)
   ·refine gd ?_ ?_<;>intro I
    ·have Q : m.pV p.Value = 3 := I;have U : zbb m l x p = p.Value := by unfold zbb; rw [j4 (by omega), j3 (by omega), j4 Q]
     rw [U] at V;refine gq ?_;refine yz intE [_] ?_;refine gq ?_;refine yw (k + 1)
    ·have Q : ¬ m.pV p.Value = 3 := I;have U : zbb m l x p = 0 := by unfold zbb; rw [j4 (by omega), j3 (by omega), j3 Q]
     rw [U] at V;refine gq ?_;refine yz intE [_] ?_;refine gq ?_;refine yw (k + 1)
  ·have U : zbb m l x p = c0 := by unfold zbb; rw [j3 (by omega), x4]
   rw [U] at V;refine gq ?_;refine yz intE [_] ?_;refine gq ?_;refine yw (k + 1)
 ·have x2 : k = (yU l l.length).length := by omega
  subst x2;have T : ((yU l l.length).take (yU l l.length).length).map (zdg m l) = zm m l := by rw [jH]; rfl
  apply k8;apply ye;refine yy ?_;refine xU ?_;refine xQ (xP (k := 9) rfl) ?_;refine yj ?_ ?_;all_goals (first | (simp [Z]; done) | (rw [j4 Z, ← T]; rfl) | (rw [j3 Z]) | exact zE Z | rfl)
end
section
attribute [local irreducible] Pur yu yq Ex X Fn Imp LeV LeB FnO It yD
attribute [local irreducible] mnsD ckD
end
section
attribute [local irreducible] Pur yu yq Ex X Fn Imp LeV LeB FnO It yD
def zoX (x : Int) (l : List Int) : decide (0 <= fidx (fun u => decide (x = u)) l) = decide (x ∈ l) := by
 by_cases h : x ∈ l
 ·have : l.findIdx (fun u => decide (x = u)) < l.length := List.findIdx_lt_length_of_exists ⟨x, h, by simp⟩;simp only [fidx, j4 this, h]; simp
 ·have V : l.findIdx (fun u => decide (x = u)) = l.length := u8.2 fun u Z => j9 fun e => h (e ▸ Z)
  have : ¬ l.findIdx (fun u => decide (x = u)) < l.length := by omega
  simp only [fidx, j3 this, h]; simp
def zdG (l : List Int) (x : Int) (hl : l.length <= 4000000000) : Fn prog 294 [yc l, iv x] (iv (fidx (fun u => decide (x = u)) l)) := by
 refine xV func294 ntmps294 (fun g w d => ?_);apply ye;refine yh ?_;apply yg;apply ye;refine yy ?_;apply xS;refine zX (fun k => [(0, yc l), (1, iv x), (7, iv l.length), (8, iv (k : Int))]) (fun k => []) (fun k => k <= l.length /\ ∀ i u, i < k -> l[i]? = some u -> decide (x = u) = false) l.length (fun k T => ?_) (hJ := by exact ⟨by omega, fun i u h => absurd h (wN i)⟩) (h0 := yd);obtain ⟨Q, Z⟩ := T;refine gd ?_ ?_<;>intro N
 ·obtain ⟨v, hv⟩ : ∃ v, l[k]? = some v := ⟨_, lgg (by omega)⟩;have J : l[(k : Int).toNat]? = some v := by simpa using hv
  refine gd ?_ ?_<;>intro V
  ·refine gq ?_;all_goals (congr 1; exact (zlO hv (by simpa using V) Z).symm)
  refine gq ?_
  refine yw (k + 1) (hJ := by
   refine ⟨by omega, fun i u hi U => ?_⟩;rcases jZ.1 hi with h | h
   ·exact Z i u h U
   ·subst h; rw [hv] at U; injection U with U; subst U; simpa using V)
 ·refine gq ?_;all_goals (congr 1; exact (zjM (fun i u hi => Z i u (by omega))).symm)
def yS (l : List Int) (x : Int) (hl : l.length <= 4000000000) : Fn prog 250 [yc l, iv x] (.bool (decide (x ∈ l))) := by
 refine xV func250 ntmps250 (fun g w d => ?_);refine gc (zdG l x hl) ?_;all_goals (congr 1; exact zoX x l)
def zjf (v : Int) (a : List Int) (b : List Bool) (Q : 1 <= a.length) (N : 1 <= b.length) (V : a.length <= 1000) (U : b.length <= 1000) : FnO prog 251 [iv v, .ptr 2000000 0 0 0, .ptr 2000001 0 0 0] [(2000000, .box [.own 2000002] 46), (2000001, .box [.own 2000003] 107), (2000002, .row intE a 3 1), (2000003, .row za6 b 4 1)] [2000000, 2000001, 2000002, 2000003] (.tup []) [(2000000, .box [.own 2000002] 46), (2000001, .box [.own 2000003] 107), (2000002, .row intE (a.set ((a.length : Int) - 1).toNat v) 3 1), (2000003, .row za6 (b.set ((b.length : Int) - 1).toNat (decide (v = 0))) 4 1)] := by
 refine kQ (ts := [(0, iv v), (1, .ptr 2000000 0 0 0), (2, .ptr 2000001 0 0 0)]) (rv := []) (n := 17) (cs := [.ptr 2000000 0 0 0, .ptr 2000001 0 0 0, .own 2000002, .own 2000003]) (by kernel_rfl) func251 rfl ntmps251 rfl rfl (by simp) rfl rfl rfl rfl (fun g w d vs => ?_);refine kP [⟨0, 4, .own 2000002, []⟩, ⟨1, 5, .own 2000002, []⟩, ⟨2, 6, iv a.length, [1]⟩, ⟨3, 7, iv ((a.length : Int) - 1), [1, 2]⟩, ⟨4, 8, .own 2000003, []⟩, ⟨5, 9, .own 2000003, []⟩, ⟨6, 10, iv b.length, [5]⟩, ⟨7, 11, iv ((b.length : Int) - 1), [5, 6]⟩, ⟨8, 12, iv v, []⟩, ⟨9, 13, iv v, []⟩, ⟨10, 14, .bool (decide (v = 0)), [9]⟩, ⟨11, 15, .ptr 2000002 1 ((a.length : Int) - 1).toNat 0, [8, 2, 1, 3, 0]⟩, ⟨13, 16, .ptr 2000003 1 ((b.length : Int) - 1).toNat 0, [12, 11, 10, 9, 8, 6, 5, 3, 2, 1, 0, 7, 4]⟩] [(12, [3, 2, 1, 0, 8, 11]), (14, [11, 9, 8, 7, 6, 5, 4, 3, 2, 1, 0, 12, 10, 13])] (fun j => ⟨[(0, iv v), (1, .ptr 2000000 0 0 0), (2, .ptr 2000001 0 0 0)], match j with | 0 => [(1000001, .hold vs [.ptr 2000000 0 0 0, .ptr 2000001 0 0 0, .own 2000002, .own 2000003]), (2000000, .box [.own 2000002] 46), (2000001, .box [.own 2000003] 107), (2000002, .row intE (a) 3 1), (2000003, .row za6 (b) 4 1)] | 1 => [(1000001, .hold vs [.ptr 2000000 0 0 0, .ptr 2000001 0 0 0, .own 2000002, .own 2000003]), (2000000, .box [.own 2000002] 46), (2000001, .box [.own 2000003] 107), (2000002, .row intE (a.set ((a.length : Int) - 1).toNat v) 3 1), (2000003, .row za6 (b) 4 1)] | _ => [(1000001, .hold vs [.ptr 2000000 0 0 0, .ptr 2000001 0 0 0, .own 2000002, .own 2000003]), (2000000, .box [.own 2000002] 46), (2000001, .box [.own 2000003] 107), (2000002, .row intE (a.set ((a.length : Int) - 1).toNat v) 3 1), (2000003, .row za6 (b.set ((b.length : Int) - 1).toNat (decide (v = 0))) 4 1)]⟩) mo (by kernel_rfl) (zl (yd)) (fun j T => ?_) (fun j c Z β hβ => ?_) ?_
 ·rcases j with _ | _ | _ | j
  ·first
    | refine ⟨.inr ⟨_, rfl, rfl, rfl, rfl, xO (zae rfl rfl rfl ty46)⟩, ?_⟩
    | refine ⟨.inr ⟨_, rfl, rfl, rfl, rfl, xO (zbg rfl rfl rfl ty46)⟩, ?_⟩
    | refine ⟨.inr ⟨_, rfl, rfl, rfl, rfl, xO (zbh rfl rfl (by assumption) rfl rfl ty46)⟩, ?_⟩
   first
    | refine ⟨.inr ⟨_, rfl, rfl, rfl, rfl, xO (zae rfl rfl rfl ty46)⟩, ?_⟩
    | refine ⟨.inr ⟨_, rfl, rfl, rfl, rfl, xO (zbg rfl rfl rfl ty46)⟩, ?_⟩
    | refine ⟨.inr ⟨_, rfl, rfl, rfl, rfl, xO (zbh rfl rfl (by assumption) rfl rfl ty46)⟩, ?_⟩
   first
    | refine ⟨.inr ⟨_, rfl, rfl, rfl, rfl, xO (zgF rfl sl46)⟩, ?_⟩
    | refine ⟨.inr ⟨_, rfl, rfl, rfl, rfl, xO (ze1 rfl rfl sl46)⟩, ?_⟩
    | refine ⟨.inr ⟨_, rfl, rfl, rfl, rfl, xO (zdU rfl sl46)⟩, ?_⟩
   refine ⟨.inr ⟨_, rfl, rfl, rfl, rfl, xO (znX rfl rfl (uH _ (by omega)))⟩, ?_⟩
   first
    | refine ⟨.inr ⟨_, rfl, rfl, rfl, rfl, xO (zae rfl rfl rfl zc2)⟩, ?_⟩
    | refine ⟨.inr ⟨_, rfl, rfl, rfl, rfl, xO (zbg rfl rfl rfl zc2)⟩, ?_⟩
    | refine ⟨.inr ⟨_, rfl, rfl, rfl, rfl, xO (zbh rfl rfl (by assumption) rfl rfl zc2)⟩, ?_⟩
   first
    | refine ⟨.inr ⟨_, rfl, rfl, rfl, rfl, xO (zae rfl rfl rfl zc2)⟩, ?_⟩
    | refine ⟨.inr ⟨_, rfl, rfl, rfl, rfl, xO (zbg rfl rfl rfl zc2)⟩, ?_⟩
    | refine ⟨.inr ⟨_, rfl, rfl, rfl, rfl, xO (zbh rfl rfl (by assumption) rfl rfl zc2)⟩, ?_⟩
   first
    | refine ⟨.inr ⟨_, rfl, rfl, rfl, rfl, xO (zgF rfl zeP)⟩, ?_⟩
    | refine ⟨.inr ⟨_, rfl, rfl, rfl, rfl, xO (ze1 rfl rfl zeP)⟩, ?_⟩
    | refine ⟨.inr ⟨_, rfl, rfl, rfl, rfl, xO (zdU rfl zeP)⟩, ?_⟩
   refine ⟨.inr ⟨_, rfl, rfl, rfl, rfl, xO (znX rfl rfl (uH _ (by omega)))⟩, ?_⟩;(iterate 2 refine ⟨.inr ⟨_, rfl, rfl, rfl, rfl, xO (zkZ rfl)⟩, ?_⟩);refine ⟨.inr ⟨_, rfl, rfl, rfl, rfl, xO (zqy rfl rfl)⟩, ?_⟩
   first
    | refine ⟨.inr ⟨_, rfl, rfl, rfl, rfl, xO (zaf rfl rfl sl46 ty3 (fun _ => rfl) (by omega) (by assumption))⟩, ?_⟩
    | refine ⟨.inr ⟨_, rfl, rfl, rfl, rfl, xO (zeA rfl rfl rfl sl46 ty3 (by omega) (by omega))⟩, ?_⟩
   exact yC
  ·iterate 4 refine ⟨.inl rfl, ?_⟩
   first
    | refine ⟨.inr ⟨_, rfl, rfl, rfl, rfl, xO (zae rfl rfl rfl zc2)⟩, ?_⟩
    | refine ⟨.inr ⟨_, rfl, rfl, rfl, rfl, xO (zbg rfl rfl rfl zc2)⟩, ?_⟩
    | refine ⟨.inr ⟨_, rfl, rfl, rfl, rfl, xO (zbh rfl rfl (by assumption) rfl rfl zc2)⟩, ?_⟩
   first
    | refine ⟨.inr ⟨_, rfl, rfl, rfl, rfl, xO (zae rfl rfl rfl zc2)⟩, ?_⟩
    | refine ⟨.inr ⟨_, rfl, rfl, rfl, rfl, xO (zbg rfl rfl rfl zc2)⟩, ?_⟩
    | refine ⟨.inr ⟨_, rfl, rfl, rfl, rfl, xO (zbh rfl rfl (by assumption) rfl rfl zc2)⟩, ?_⟩
   first
    | refine ⟨.inr ⟨_, rfl, rfl, rfl, rfl, xO (zgF rfl zeP)⟩, ?_⟩
    | refine ⟨.inr ⟨_, rfl, rfl, rfl, rfl, xO (ze1 rfl rfl zeP)⟩, ?_⟩
    | refine ⟨.inr ⟨_, rfl, rfl, rfl, rfl, xO (zdU rfl zeP)⟩, ?_⟩
   refine ⟨.inr ⟨_, rfl, rfl, rfl, rfl, xO (znX rfl rfl (uH _ (by omega)))⟩, ?_⟩;refine ⟨.inl rfl, ?_⟩;refine ⟨.inr ⟨_, rfl, rfl, rfl, rfl, xO (zkZ rfl)⟩, ?_⟩;refine ⟨.inr ⟨_, rfl, rfl, rfl, rfl, xO (zqy rfl rfl)⟩, ?_⟩;refine ⟨.inl rfl, ?_⟩
   first
    | refine ⟨.inr ⟨_, rfl, rfl, rfl, rfl, xO (zaf rfl rfl zeP ty4 (fun _ => rfl) (by omega) (by assumption))⟩, ?_⟩
    | refine ⟨.inr ⟨_, rfl, rfl, rfl, rfl, xO (zeA rfl rfl rfl zeP ty4 (by omega) (by omega))⟩, ?_⟩
   exact True.intro
  ·exact yC
  ·exact absurd (show j + 3 <= 2 from T) (by omega)
 ·rcases j with _ | _ | j
  ·obtain rfl : (12, [3, 2, 1, 0, 8, 11]) = c := by injection Z
   refine yQ rfl (yV (st0 := ⟨[(4, .own 2000002), (5, .own 2000002), (6, iv a.length), (7, iv ((a.length : Int) - 1)), (8, .ifb (β 4) (.own 2000003)), (9, .ifb (β 5) (.own 2000003)), (10, .ifb (β 6) (iv b.length)), (11, .ifb (β 7) (iv ((b.length : Int) - 1))), (12, iv v), (13, .ifb (β 9) (iv v)), (14, .ifb (β 10) (.bool (decide (v = 0)))), (15, .ptr 2000002 1 ((a.length : Int) - 1).toNat 0), (16, .ifb (β 13) (.ptr 2000003 1 ((b.length : Int) - 1).toNat 0)), (0, iv v), (1, .ptr 2000000 0 0 0), (2, .ptr 2000001 0 0 0)], [(1000001, .hold vs [.ptr 2000000 0 0 0, .ptr 2000001 0 0 0, .own 2000002, .own 2000003]), (2000000, .box [.own 2000002] 46), (2000001, .box [.own 2000003] 107), (2000002, .row intE (a) 3 1), (2000003, .row za6 (b) 4 1)]⟩) (yK) ?_);refine yq.imp (zeI v rfl rfl (fun _ => rfl) (by decide) (by omega) rfl rfl rfl rfl rfl ty3) (yK)
  ·obtain rfl : (14, [11, 9, 8, 7, 6, 5, 4, 3, 2, 1, 0, 12, 10, 13]) = c := by injection Z
   refine yQ rfl (yV (st0 := ⟨[(4, .own 2000002), (5, .own 2000002), (6, iv a.length), (7, iv ((a.length : Int) - 1)), (8, .own 2000003), (9, .own 2000003), (10, iv b.length), (11, iv ((b.length : Int) - 1)), (12, iv v), (13, iv v), (14, .bool (decide (v = 0))), (15, .ptr 2000002 1 ((a.length : Int) - 1).toNat 0), (16, .ptr 2000003 1 ((b.length : Int) - 1).toNat 0), (0, iv v), (1, .ptr 2000000 0 0 0), (2, .ptr 2000001 0 0 0)], [(1000001, .hold vs [.ptr 2000000 0 0 0, .ptr 2000001 0 0 0, .own 2000002, .own 2000003]), (2000000, .box [.own 2000002] 46), (2000001, .box [.own 2000003] 107), (2000002, .row intE (a.set ((a.length : Int) - 1).toNat v) 3 1), (2000003, .row za6 (b) 4 1)]⟩) (yK) ?_);refine yq.imp (zeI (decide (v = 0)) rfl rfl (fun _ => rfl) (by decide) (by omega) rfl rfl rfl rfl rfl ty4) (yK)
  ·exact absurd Z (by simp)
 refine zn3.mk (ts := []) (.inl rfl) (yd) (.many (by decide) .nil)
end
end Go.Rse
