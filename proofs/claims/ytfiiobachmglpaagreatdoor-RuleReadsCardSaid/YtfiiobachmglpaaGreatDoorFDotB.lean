/-
  Walks: the meaning of each dot by the rule.
  Walks: the list of meanings with a number.
  Walks: the cuts and additions of chosen meanings.
  Walks: cuts and additions.
-/
import Derived.Test.YtfiiobachmglpaaGreatDoorFDotA
import Derived.Test.YtfiiobachmglpaaGreatDoorFLogB
import Derived.Test.YtfiiobachmglpaaGreatDoorFLogC
set_option linter.unusedSimpArgs false
set_option linter.unusedVariables false
namespace Go.Rse
open Go Go.Proofs
attribute [local irreducible] Pur yK yM Ex X Fn Imp LeV LeB FnO It yW
def zdC (l : List Sg) (i : Int) : Int := match l[(i + 1).toNat]? with | some s => s.Value | none => 9
def zaH (m : Mn) (l : List Sg) (i : Int) (p : Sg) : Int :=
 if (mngs m p).length = 2 then (if zdC l i <= p.Value then m.aV p.Value else if m.pV p.Value = 3 then p.Value else 0) else (mngs m p).headD 0
def zcw (m : Mn) (l : List Sg) (i : Int) : Int := match zdB l i with | some p => zaH m l i p | none => 0
def zm (m : Mn) (l : List Sg) : List Int := (yU l l.length).map (zcw m l)
theorem zl8 {m : Mn} {l : List Sg} {L : List Int} {k : Nat} {x : Int} {p : Sg} (h : L[k]? = some x) (hp : l[(x - 1).toNat]? = some p) : (L.take k).map (zcw m l) ++ [zaH m l x p] = (L.take (k + 1)).map (zcw m l) := by
 have e : zcw m l x = zaH m l x p := by unfold zcw zdB; rw [hp]
 rw [List.take_add_one, h];simp [e]
theorem zju {m : Mn} {l : List Sg} (h : z7 m l 0 l = 0) : ∀ k, k <= l.length -> ∀ x, x ∈ yU l k -> ∀ p, l[(x - 1).toNat]? = some p -> (mngs m p).length ≠ 0
 | 0, _, x, hx => by simp [yU] at hx
 | k + 1, hk, x, hx => by
  simp only [yU, List.mem_append] at hx;rcases hx with hx | hx
  ·exact zju h k (by omega) x hx
  ·have hs : l[k]? = some l[k] := lgg (by omega);simp only [hs] at hx;split at hx
   ·rename_i hK;have h0 := (zab h (k + 1) hk).2 k _ (by omega) hs;simp at hx;intro p hp;cases k with
    | zero => unfold sgF at h0; rw [if_neg (by omega), if_pos hK] at h0; simp at h0
    | succ j =>
     rw [show (x - 1).toNat = j by omega] at hp;unfold sgF at h0;rw [if_neg (by omega), if_pos hK] at h0;simp only [hp] at h0;intro hz;rw [if_pos (.inr hz)] at h0;simp at h0
   ·simp at hx
theorem zmv {m : Mn} {l : List Sg} {k : Nat} {x : Int} {p : Sg} (h : (yU l l.length)[k]? = some x) (hp : l[(x - 1).toNat]? = some p) : (mnsD m l)[k]? = some (mngs m p) := by
 have e : mnAt m l x = mngs m p := by unfold mnAt zdB; rw [hp]
 rw [mnsD, List.getElem?_map, h];simp [e]
theorem ziB (l : List Sg) (hl : l.length <= 1000) (i : Int) (h0 : 0 <= i) (h1 : i <= 1000) : Fn Tryz.prog 149 [iv i, .ept (fun _ : Unit => [sgsA l]) () 0] (iv (zdC l i)) := by
 refine Fn.go Tryz.func149 Tryz.ntmps149 (fun g w d => ?_);apply yb;refine ye ?_;apply yd;apply yb;refine y4 ?_;refine yk rfl ?_ ?_<;>intro hc1
 ·obtain ⟨s, hs⟩ : ∃ s, l[(i + 1).toNat]? = some s := ⟨_, lgg (by omega)⟩;apply yb;iterate 6 refine ya ?_
  refine ye ?_;refine X.ret ?_;refine ym ?_;all_goals (congr 1; unfold zdC; rw [hs])
 have hs : l[(i + 1).toNat]? = none := List.getElem?_eq_none (by omega);apply yf;apply yb;refine ye ?_;refine X.ret ?_;refine ym ?_;all_goals (congr 1; unfold zdC; rw [hs])
theorem zki (m : Mn) (l : List Sg) (hl : l.length <= 1000) : Fn Tryz.prog 83 [mnA m, sgsA l] (.tup [yg (if ckD m l = 0 then zm m l else []), iv (ckD m l)]) := by
 refine Fn.go Tryz.func83 Tryz.ntmps83 (fun g w d => ?_);apply yb;refine yH ?_;refine zeH ?_;iterate 2 refine ya ?_
 apply yn;iterate 2 refine ya ?_
 refine yr (C_dot_Meanings m l hl) ?_;refine y4 ?_;apply yd;apply yb;refine yh ?_;refine yk rfl ?_ ?_<;>intro hc1
 ·apply yb;refine yp ?_;refine X.ret ?_;refine yu (yl (ts := [(4, yg []), (5, iv (ckD m l))]) (hs := [])) ?_;refine yz ?_ ?_;all_goals (first | (simp [hc1]; done) | (rw [if_pos hc1, ← hfin]; rfl) | (rw [if_neg hc1]) | (rw [hc1]; rfl) | rfl)
 apply yf;apply yd;refine y3 (y8 (k := 3) rfl rfl) ?_;have hms : (if ckD m l = 0 then mnsD m l else []) = mnsD m l := if_pos hc1;rw [hms]
 have hcf : z7 m l 0 l = 0 := by unfold ckD at hc1; split at hc1
                                 ·exact hc1
                                 ·exact absurd hc1 (by assumption)
 apply yc;iterate 2 refine ya ?_
 apply yn;refine ye ?_;iterate 2 apply yd
 refine y3 (yZ intE 3 1 9 9 rfl rfl) ?_;apply yc;refine ya ?_;refine yr (zgV l hl) ?_;refine yh ?_;apply X.block;have hdl := zaY l l.length;refine y9 (ι := Nat) (fun (k : Nat) => [(2, .ptr 2 0 0 0), (3, .ept (fun _ : Unit => [sgsA l]) () 0), (5, iv 0), (6, zb9 (mnsD m l)), (8, .fn 149 [.ept (fun _ : Unit => [sgsA l]) () 0]), (9, .own 9), (29, yg (yU l l.length)), (30, iv (yU l l.length).length), (31, iv (k : Int))]) (fun (k : Nat) => [(2, .box (mnE m) 23), (9, .row intE (((yU l l.length).take k).map (zcw m l)) 3 1)]) (fun (k : Nat) => k <= (yU l l.length).length) (fun (k : Nat) => (yU l l.length).length - k) 0 (fun k hk => ?_);apply yb;refine ye ?_;apply yd;refine yk rfl ?_ ?_<;>intro hc2
 ·obtain ⟨x, hx⟩ : ∃ x, (yU l l.length)[k]? = some x := ⟨_, lgg (by omega)⟩;have hx2 : (yU l l.length)[(k : Int).toNat]? = some x := by simpa using hx
  obtain ⟨j, s, p, hj1, hj2, hj3⟩ := zeg hcf l.length (Nat.le_refl _) x (List.mem_of_getElem? hx);have hjl : j + 1 < l.length := (List.getElem?_eq_some_iff.1 hj2).1;have hp : l[(x - 1).toNat]? = some p := by rw [show (x - 1).toNat = j by omega]; exact hj3
  have hne := zju hcf l.length (Nat.le_refl _) x (List.mem_of_getElem? hx) p hp;have hmk : (mnsD m l)[(k : Int).toNat]? = some (mngs m p) := by simpa using zmv (m := m) hx hp
  obtain ⟨c0, hc0⟩ : ∃ c0, (mngs m p)[(0 : Int).toNat]? = some c0 := ⟨_, lgg (by simp; omega)⟩
  have hhd : (mngs m p).headD 0 = c0 := by
   cases hq : mngs m p with
   | nil => simp [hq] at hne
   | cons a b => simp [hq] at hc0; simp [hc0]
  have hrow2 := zl8 (m := m) hx hp;have htl : (((yU l l.length).take k).map (zcw m l)).length <= 1000 := by simp; omega
  apply yf;apply yd;apply X.block;apply yb;iterate 5 refine ya ?_
  apply yn;iterate 7 refine ya ?_
  apply yn;iterate 6 refine ya ?_
  refine ye ?_;apply yd;apply yb;iterate 5 refine ya ?_
  refine ye ?_;refine yk rfl ?_ ?_<;>intro hc3
  ·apply yb;(iterate 2 refine ya ?_);refine yr (zdg m p.Value) ?_;(iterate 5 refine ya ?_);apply yn;(iterate 2 refine ya ?_);refine yr (zfJ m p.Value) ?_;refine y4 ?_;apply X.block;apply yb;(iterate 2 refine ya ?_);refine yr (ziB l hl x (by omega) (by omega)) ?_;refine yp ?_;refine yk rfl ?_ ?_<;>intro hc4
   ·have hch : zaH m l x p = m.aV p.Value := by unfold zaH; rw [if_pos (by omega), if_pos hc4]
    rw [hch] at hrow2;apply yc;refine yh ?_;apply yc;(iterate 2 refine ya ?_);refine yO intE [_] ?_;refine yi ?_;refine ye ?_;apply yc;refine yh ?_;refine yL (k + 1)
   ·apply yb;refine yp ?_;refine yk rfl ?_ ?_<;>intro hc5
    ·have hc6 : m.pV p.Value = 3 := hc5;have hch : zaH m l x p = p.Value := by unfold zaH; rw [if_pos (by omega), if_neg (by omega), if_pos hc6]
     rw [hch] at hrow2;apply yc;refine yh ?_;apply yc;(iterate 2 refine ya ?_);refine yO intE [_] ?_;refine yi ?_;refine ye ?_;apply yc;refine yh ?_;refine yL (k + 1)
    ·have hc6 : ¬ m.pV p.Value = 3 := hc5;have hch : zaH m l x p = 0 := by unfold zaH; rw [if_pos (by omega), if_neg (by omega), if_neg hc6]
     rw [hch] at hrow2;apply yc;refine ye ?_;apply yc;(iterate 2 refine ya ?_);refine yO intE [_] ?_;refine yi ?_;refine ye ?_;apply yc;refine yh ?_;refine yL (k + 1)
  ·have hch : zaH m l x p = c0 := by unfold zaH; rw [if_neg (by omega), hhd]
   rw [hch] at hrow2;apply yf;apply yc;(iterate 2 refine ya ?_);refine yO intE [_] ?_;refine yi ?_;refine ye ?_;apply yc;refine yh ?_;refine yL (k + 1)
 ·have hkl : k = (yU l l.length).length := by omega
  subst hkl;have hfin : ((yU l l.length).take (yU l l.length).length).map (zcw m l) = zm m l := by rw [List.take_length]; rfl
  apply X.exit;apply yb;refine yp ?_;refine X.ret ?_;refine yu (Imp.freeze (k := 9) rfl) ?_;refine yz ?_ ?_;all_goals (first | (simp [hc1]; done) | (rw [if_pos hc1, ← hfin]; rfl) | (rw [if_neg hc1]) | (rw [hc1]; rfl) | rfl)
end Go.Rse
namespace Go.Rse
open Go Go.Proofs
attribute [local irreducible] Pur yK yM Ex X Fn Imp LeV LeB FnO It yW
attribute [local irreducible] mnsD ckD
end Go.Rse
namespace Go.Rse
open Go Go.Proofs
attribute [local irreducible] Pur yK yM Ex X Fn Imp LeV LeB FnO It yW
theorem zmw (x : Int) (l : List Int) : decide (0 <= fidx (fun u => decide (x = u)) l) = decide (x ∈ l) := by
 by_cases h : x ∈ l
 ·have : l.findIdx (fun u => decide (x = u)) < l.length := List.findIdx_lt_length_of_exists ⟨x, h, by simp⟩;simp only [fidx, if_pos this, h]; simp
 ·have h2 : l.findIdx (fun u => decide (x = u)) = l.length := List.findIdx_eq_length.2 fun u hu => decide_eq_false fun e => h (e ▸ hu)
  have : ¬ l.findIdx (fun u => decide (x = u)) < l.length := by omega
  simp only [fidx, if_neg this, h]; simp
theorem zcU (l : List Int) (x : Int) (hl : l.length <= 4000000000) : Fn Tryz.prog 205 [yg l, iv x] (iv (fidx (fun u => decide (x = u)) l)) := by
 refine Fn.go Tryz.func205 Tryz.ntmps205 (fun g w d => ?_);apply yb;refine ye ?_;apply yd;apply yb;refine yp ?_;apply X.block
 refine y9 (ι := Nat) (fun (k : Nat) => [(0, yg l), (1, iv x), (7, iv l.length), (8, iv (k : Int))]) (fun (k : Nat) => []) (fun (k : Nat) => k <= l.length /\ ∀ i u, i < k -> l[i]? = some u -> decide (x = u) = false) (fun (k : Nat) => l.length - k) 0 (fun k hk => ?_) (hJ := by
  exact ⟨by omega, fun i u h => absurd h (Nat.not_lt_zero i)⟩)
 obtain ⟨hk1, hk2⟩ := hk;apply yb;refine ye ?_;apply yd;refine yk rfl ?_ ?_<;>intro hc1
 ·obtain ⟨v, hv⟩ : ∃ v, l[k]? = some v := ⟨_, lgg (by omega)⟩;have hv2 : l[(k : Int).toNat]? = some v := by simpa using hv
  apply yf;apply yd;apply X.block;apply yb;iterate 2 refine ya ?_
  apply yn;iterate 5 refine ya ?_
  refine ye ?_;refine yk rfl ?_ ?_<;>intro hc2
  ·apply yb;refine yh ?_;refine X.ret ?_;refine ym ?_;all_goals (congr 1; exact (zjE hv (by simpa using hc2) hk2).symm)
  apply yf;apply yc;refine yh ?_
  refine yL (k + 1) (hJ := by
   refine ⟨by omega, fun i u hi hu => ?_⟩;rcases Nat.lt_succ_iff_lt_or_eq.1 hi with h | h
   ·exact hk2 i u h hu
   ·subst h; rw [hv] at hu; injection hu with hu; subst hu; simpa using hc2)
 ·apply X.exit;apply yb;refine ye ?_;refine X.ret ?_;refine ym ?_;all_goals (congr 1; exact (zh8 (fun i u hi => hk2 i u (by omega))).symm)
theorem yV (l : List Int) (x : Int) (hl : l.length <= 4000000000) : Fn Tryz.prog 128 [yg l, iv x] (.bool (decide (x ∈ l))) := by
 refine Fn.go Tryz.func128 Tryz.ntmps128 (fun g w d => ?_);apply yb;refine ya ?_;apply yn;iterate 2 refine ya ?_
 refine yr (zcU l x hl) ?_;refine yh ?_;refine X.ret ?_;refine ym ?_;all_goals (congr 1; exact zmw x l)
theorem zhL (v : Int) (a : List Int) (b : List Bool) (ha : 1 <= a.length) (hb : 1 <= b.length) (ha2 : a.length <= 1000) (hb2 : b.length <= 1000) : FnO Tryz.prog 153 [iv v, .ptr 2000000 0 0 0, .ptr 2000001 0 0 0] [(2000000, .box [.own 2000002] 27), (2000001, .box [.own 2000003] 74), (2000002, .row intE a 3 1), (2000003, .row zd b 4 1)] [2000000, 2000001, 2000002, 2000003] (.tup []) [(2000000, .box [.own 2000002] 27), (2000001, .box [.own 2000003] 74), (2000002, .row intE (a.set ((a.length : Int) - 1).toNat v) 3 1), (2000003, .row zd (b.set ((b.length : Int) - 1).toNat (decide (v = 0))) 4 1)] := by
 refine FnO.intro (ts := [(0, iv v), (1, .ptr 2000000 0 0 0), (2, .ptr 2000001 0 0 0)]) (rv := []) (n := 17) (cs := [.ptr 2000000 0 0 0, .ptr 2000001 0 0 0, .own 2000002, .own 2000003]) (by kernel_rfl) Tryz.func153 rfl Tryz.ntmps153 rfl rfl (by simp) rfl rfl rfl rfl (fun g w d vs => ?_);refine X.drawP [⟨0, 4, .own 2000002, []⟩, ⟨1, 5, .own 2000002, []⟩, ⟨2, 6, iv a.length, [1]⟩, ⟨3, 7, iv ((a.length : Int) - 1), [1, 2]⟩, ⟨4, 8, .own 2000003, []⟩, ⟨5, 9, .own 2000003, []⟩, ⟨6, 10, iv b.length, [5]⟩, ⟨7, 11, iv ((b.length : Int) - 1), [5, 6]⟩, ⟨8, 12, iv v, []⟩, ⟨9, 13, iv v, []⟩, ⟨10, 14, .bool (decide (v = 0)), [9]⟩, ⟨11, 15, .ptr 2000002 1 ((a.length : Int) - 1).toNat 0, [8, 2, 1, 3, 0]⟩, ⟨13, 16, .ptr 2000003 1 ((b.length : Int) - 1).toNat 0, [12, 11, 10, 9, 8, 6, 5, 3, 2, 1, 0, 7, 4]⟩] [(12, [3, 2, 1, 0, 8, 11]), (14, [11, 9, 8, 7, 6, 5, 4, 3, 2, 1, 0, 12, 10, 13])] (fun j => ⟨[(0, iv v), (1, .ptr 2000000 0 0 0), (2, .ptr 2000001 0 0 0)], match j with | 0 => [(1000001, .hold vs [.ptr 2000000 0 0 0, .ptr 2000001 0 0 0, .own 2000002, .own 2000003]), (2000000, .box [.own 2000002] 27), (2000001, .box [.own 2000003] 74), (2000002, .row intE (a) 3 1), (2000003, .row zd (b) 4 1)] | 1 => [(1000001, .hold vs [.ptr 2000000 0 0 0, .ptr 2000001 0 0 0, .own 2000002, .own 2000003]), (2000000, .box [.own 2000002] 27), (2000001, .box [.own 2000003] 74), (2000002, .row intE (a.set ((a.length : Int) - 1).toNat v) 3 1), (2000003, .row zd (b) 4 1)] | _ => [(1000001, .hold vs [.ptr 2000000 0 0 0, .ptr 2000001 0 0 0, .own 2000002, .own 2000003]), (2000000, .box [.own 2000002] 27), (2000001, .box [.own 2000003] 74), (2000002, .row intE (a.set ((a.length : Int) - 1).toNat v) 3 1), (2000003, .row zd (b.set ((b.length : Int) - 1).toNat (decide (v = 0))) 4 1)]⟩) mo (by kernel_rfl) (zE (yl)) (fun j hj => ?_) (fun j c hc β hβ => ?_) ?_
 ·rcases j with _ | _ | _ | j
  ·first
    | refine ⟨.inr ⟨_, rfl, rfl, rfl, rfl, yY rfl rfl rfl ty27⟩, ?_⟩
    | refine ⟨.inr ⟨_, rfl, rfl, rfl, rfl, zaQ rfl rfl rfl ty27⟩, ?_⟩
    | refine ⟨.inr ⟨_, rfl, rfl, rfl, rfl, zaR rfl rfl (by assumption) rfl rfl ty27⟩, ?_⟩
   first
    | refine ⟨.inr ⟨_, rfl, rfl, rfl, rfl, yY rfl rfl rfl ty27⟩, ?_⟩
    | refine ⟨.inr ⟨_, rfl, rfl, rfl, rfl, zaQ rfl rfl rfl ty27⟩, ?_⟩
    | refine ⟨.inr ⟨_, rfl, rfl, rfl, rfl, zaR rfl rfl (by assumption) rfl rfl ty27⟩, ?_⟩
   first
    | refine ⟨.inr ⟨_, rfl, rfl, rfl, rfl, zfr rfl sl27⟩, ?_⟩
    | refine ⟨.inr ⟨_, rfl, rfl, rfl, rfl, zel rfl rfl sl27⟩, ?_⟩
    | refine ⟨.inr ⟨_, rfl, rfl, rfl, rfl, zcY rfl sl27⟩, ?_⟩
   refine ⟨.inr ⟨_, rfl, rfl, rfl, rfl, zlg rfl rfl (IntWalk.i64_in _ (by omega))⟩, ?_⟩
   first
    | refine ⟨.inr ⟨_, rfl, rfl, rfl, rfl, yY rfl rfl rfl ty74⟩, ?_⟩
    | refine ⟨.inr ⟨_, rfl, rfl, rfl, rfl, zaQ rfl rfl rfl ty74⟩, ?_⟩
    | refine ⟨.inr ⟨_, rfl, rfl, rfl, rfl, zaR rfl rfl (by assumption) rfl rfl ty74⟩, ?_⟩
   first
    | refine ⟨.inr ⟨_, rfl, rfl, rfl, rfl, yY rfl rfl rfl ty74⟩, ?_⟩
    | refine ⟨.inr ⟨_, rfl, rfl, rfl, rfl, zaQ rfl rfl rfl ty74⟩, ?_⟩
    | refine ⟨.inr ⟨_, rfl, rfl, rfl, rfl, zaR rfl rfl (by assumption) rfl rfl ty74⟩, ?_⟩
   first
    | refine ⟨.inr ⟨_, rfl, rfl, rfl, rfl, zfr rfl sl74⟩, ?_⟩
    | refine ⟨.inr ⟨_, rfl, rfl, rfl, rfl, zel rfl rfl sl74⟩, ?_⟩
    | refine ⟨.inr ⟨_, rfl, rfl, rfl, rfl, zcY rfl sl74⟩, ?_⟩
   refine ⟨.inr ⟨_, rfl, rfl, rfl, rfl, zlg rfl rfl (IntWalk.i64_in _ (by omega))⟩, ?_⟩;(iterate 2 refine ⟨.inr ⟨_, rfl, rfl, rfl, rfl, zkz rfl⟩, ?_⟩);refine ⟨.inr ⟨_, rfl, rfl, rfl, rfl, zm0 rfl rfl⟩, ?_⟩
   first
    | refine ⟨.inr ⟨_, rfl, rfl, rfl, rfl, zU rfl rfl sl27 ty3 (fun _ => rfl) (by omega) (by assumption)⟩, ?_⟩
    | refine ⟨.inr ⟨_, rfl, rfl, rfl, rfl, zdP rfl rfl rfl sl27 ty3 (by omega) (by omega)⟩, ?_⟩
   refine ⟨.inl rfl, ?_⟩;exact True.intro
  ·iterate 4 refine ⟨.inl rfl, ?_⟩
   first
    | refine ⟨.inr ⟨_, rfl, rfl, rfl, rfl, yY rfl rfl rfl ty74⟩, ?_⟩
    | refine ⟨.inr ⟨_, rfl, rfl, rfl, rfl, zaQ rfl rfl rfl ty74⟩, ?_⟩
    | refine ⟨.inr ⟨_, rfl, rfl, rfl, rfl, zaR rfl rfl (by assumption) rfl rfl ty74⟩, ?_⟩
   first
    | refine ⟨.inr ⟨_, rfl, rfl, rfl, rfl, yY rfl rfl rfl ty74⟩, ?_⟩
    | refine ⟨.inr ⟨_, rfl, rfl, rfl, rfl, zaQ rfl rfl rfl ty74⟩, ?_⟩
    | refine ⟨.inr ⟨_, rfl, rfl, rfl, rfl, zaR rfl rfl (by assumption) rfl rfl ty74⟩, ?_⟩
   first
    | refine ⟨.inr ⟨_, rfl, rfl, rfl, rfl, zfr rfl sl74⟩, ?_⟩
    | refine ⟨.inr ⟨_, rfl, rfl, rfl, rfl, zel rfl rfl sl74⟩, ?_⟩
    | refine ⟨.inr ⟨_, rfl, rfl, rfl, rfl, zcY rfl sl74⟩, ?_⟩
   refine ⟨.inr ⟨_, rfl, rfl, rfl, rfl, zlg rfl rfl (IntWalk.i64_in _ (by omega))⟩, ?_⟩;refine ⟨.inl rfl, ?_⟩;refine ⟨.inr ⟨_, rfl, rfl, rfl, rfl, zkz rfl⟩, ?_⟩;refine ⟨.inr ⟨_, rfl, rfl, rfl, rfl, zm0 rfl rfl⟩, ?_⟩;refine ⟨.inl rfl, ?_⟩
   first
    | refine ⟨.inr ⟨_, rfl, rfl, rfl, rfl, zU rfl rfl sl74 ty4 (fun _ => rfl) (by omega) (by assumption)⟩, ?_⟩
    | refine ⟨.inr ⟨_, rfl, rfl, rfl, rfl, zdP rfl rfl rfl sl74 ty4 (by omega) (by omega)⟩, ?_⟩
   exact True.intro
  ·(iterate 13 refine ⟨.inl rfl, ?_⟩);exact True.intro
  ·exact absurd (show j + 3 <= 2 from hj) (by omega)
 ·rcases j with _ | _ | j
  ·obtain rfl : (12, [3, 2, 1, 0, 8, 11]) = c := by injection hc
   refine yw rfl (yG (st0 := ⟨[(4, .own 2000002), (5, .own 2000002), (6, iv a.length), (7, iv ((a.length : Int) - 1)), (8, .ifb (β 4) (.own 2000003)), (9, .ifb (β 5) (.own 2000003)), (10, .ifb (β 6) (iv b.length)), (11, .ifb (β 7) (iv ((b.length : Int) - 1))), (12, iv v), (13, .ifb (β 9) (iv v)), (14, .ifb (β 10) (.bool (decide (v = 0)))), (15, .ptr 2000002 1 ((a.length : Int) - 1).toNat 0), (16, .ifb (β 13) (.ptr 2000003 1 ((b.length : Int) - 1).toNat 0)), (0, iv v), (1, .ptr 2000000 0 0 0), (2, .ptr 2000001 0 0 0)], [(1000001, .hold vs [.ptr 2000000 0 0 0, .ptr 2000001 0 0 0, .own 2000002, .own 2000003]), (2000000, .box [.own 2000002] 27), (2000001, .box [.own 2000003] 74), (2000002, .row intE (a) 3 1), (2000003, .row zd (b) 4 1)]⟩) (yE) ?_);refine yq (zd0 v rfl rfl (fun _ => rfl) (by decide) (by omega) rfl rfl rfl rfl rfl ty3) (yE)
  ·obtain rfl : (14, [11, 9, 8, 7, 6, 5, 4, 3, 2, 1, 0, 12, 10, 13]) = c := by injection hc
   refine yw rfl (yG (st0 := ⟨[(4, .own 2000002), (5, .own 2000002), (6, iv a.length), (7, iv ((a.length : Int) - 1)), (8, .own 2000003), (9, .own 2000003), (10, iv b.length), (11, iv ((b.length : Int) - 1)), (12, iv v), (13, iv v), (14, .bool (decide (v = 0))), (15, .ptr 2000002 1 ((a.length : Int) - 1).toNat 0), (16, .ptr 2000003 1 ((b.length : Int) - 1).toNat 0), (0, iv v), (1, .ptr 2000000 0 0 0), (2, .ptr 2000001 0 0 0)], [(1000001, .hold vs [.ptr 2000000 0 0 0, .ptr 2000001 0 0 0, .own 2000002, .own 2000003]), (2000000, .box [.own 2000002] 27), (2000001, .box [.own 2000003] 74), (2000002, .row intE (a.set ((a.length : Int) - 1).toNat v) 3 1), (2000003, .row zd (b) 4 1)]⟩) (yE) ?_);refine yq (zd0 (decide (v = 0)) rfl rfl (fun _ => rfl) (by decide) (by omega) rfl rfl rfl rfl rfl ty4) (yE)
  ·exact absurd hc (by simp)
 refine zlm.mk (ts := []) (.inl rfl) (yl) (.many (by decide) .nil)
end Go.Rse
namespace Go.Rse
open Go Go.Proofs
attribute [local irreducible] Pur yK yM Ex X Fn Imp LeV LeB FnO It yW
def mkK (ch : List Int) (l : List Sg) : Nat -> List Int × List Bool × Nat
 | 0 => ([], [], 0)
 | k + 1 => match l[k]? with
  | some s => if s.Kind = 3 then ((mkK ch l k).1.set (((mkK ch l k).1.length : Int) - 1).toNat (ch.getD (mkK ch l k).2.2 0), (mkK ch l k).2.1.set (((mkK ch l k).2.1.length : Int) - 1).toNat (decide (ch.getD (mkK ch l k).2.2 0 = 0)), (mkK ch l k).2.2 + 1) else ((mkK ch l k).1 ++ [0], (mkK ch l k).2.1 ++ [false], (mkK ch l k).2.2)
  | none => mkK ch l k
theorem zff {ch : List Int} {l : List Sg} {k : Nat} {s : Sg} (h : l[k]? = some s) (h3 : s.Kind = 3) : mkK ch l (k + 1) = ((mkK ch l k).1.set (((mkK ch l k).1.length : Int) - 1).toNat (ch.getD (mkK ch l k).2.2 0), (mkK ch l k).2.1.set (((mkK ch l k).2.1.length : Int) - 1).toNat (decide (ch.getD (mkK ch l k).2.2 0 = 0)), (mkK ch l k).2.2 + 1) := by
 simp only [mkK, h, if_pos h3]
theorem zdD {ch : List Int} {l : List Sg} {k : Nat} {s : Sg} (h : l[k]? = some s) (h3 : ¬ s.Kind = 3) : mkK ch l (k + 1) = ((mkK ch l k).1 ++ [0], (mkK ch l k).2.1 ++ [false], (mkK ch l k).2.2) := by
 simp only [mkK, h, if_neg h3]
theorem zgC (ch : List Int) (l : List Sg) : ∀ k, (mkK ch l k).1.length = (mkK ch l k).2.1.length /\ (mkK ch l k).1.length <= k /\ (mkK ch l k).2.2 = (yU l k).length
 | 0 => ⟨rfl, Nat.le_refl _, rfl⟩
 | k + 1 => by
  obtain ⟨h1, h2, h3⟩ := zgC ch l k;cases hs : l[k]? with
  | none => simp only [mkK, yU, hs, List.append_nil]; exact ⟨h1, by omega, h3⟩
  | some s =>
   by_cases hK : s.Kind = 3
   ·rw [zff hs hK]; simp [yU, hs, hK]; omega
   ·rw [zdD hs hK]; simp [yU, hs, hK]; omega
theorem zeQ (l : List Sg) : ∀ (n k : Nat), k <= n -> (yU l k).length <= (yU l n).length
 | 0, k, h => by have : k = 0 := by omega
                 subst this; exact Nat.le_refl _
 | n + 1, k, h => by
  rcases Nat.lt_or_ge n k with h1 | h1
  ·have : k = n + 1 := by omega
   subst this; exact Nat.le_refl _
  ·have := zeQ l n k h1;simp only [yU, List.length_append]; omega
theorem ziC {m : Mn} {ch : List Int} {l : List Sg} (h : z7 m l 0 l = 0) : ∀ k, 1 <= k -> k <= l.length -> 1 <= (mkK ch l k).1.length
 | 0, h1, _ => by omega
 | k + 1, _, hk => by
  obtain ⟨s, hs⟩ : ∃ s, l[k]? = some s := ⟨_, lgg (by omega)⟩;by_cases hK : s.Kind = 3
  ·rw [zff hs hK];simp only [List.length_set];rcases Nat.eq_zero_or_pos k with h0 | h0
   ·subst h0;have := (zab h 1 hk).2 0 s (by omega) hs;unfold sgF at this;rw [if_neg (by omega), if_pos hK] at this;simp at this
   ·exact ziC h k h0 (by omega)
  ·rw [zdD hs hK]; simp
theorem zkU {m : Mn} {l : List Sg} (h : z7 m l 0 l = 0) {k : Nat} {s : Sg} (hs : l[k]? = some s) (hK : s.Kind = 3) : 1 <= k := by
 rcases Nat.eq_zero_or_pos k with h0 | h0
 ·subst h0;have := (zab h 1 (List.getElem?_eq_some_iff.1 hs).1).2 0 s (by omega) hs;unfold sgF at this;rw [if_neg (by omega), if_pos hK] at this;simp at this
 ·exact h0
theorem zgW {m : Mn} {l : List Sg} (h : ckD m l = 0) : z7 m l 0 l = 0 := by
 unfold ckD at h; split at h
 ·exact h
 ·exact absurd h (by assumption)
def chOk (ch : List Int) (L : List (List Int)) : Prop := ((L.zip ch).all fun p => decide (p.2 ∈ p.1)) = true
instance (ch : List Int) (L : List (List Int)) : Decidable (chOk ch L) := inferInstanceAs (Decidable (_ = true))
theorem zdE {ch : List Int} {L : List (List Int)} : chOk ch L ↔ ∀ (i : Nat) x v, L[i]? = some x -> ch[i]? = some v -> v ∈ x := by
 unfold chOk;rw [List.all_eq_true];constructor
 ·intro h i x v hx hv;have := h (x, v) (List.mem_iff_getElem?.2 ⟨i, List.getElem?_zip_eq_some.2 ⟨hx, hv⟩⟩);simpa using this
 ·rintro h ⟨x, v⟩ hp
  obtain ⟨i, hi⟩ := List.mem_iff_getElem?.1 hp;obtain ⟨h1, h2⟩ := List.getElem?_zip_eq_some.1 hi;simpa using h i x v h1 h2
def mkE (m : Mn) (l : List Sg) (ch : List Int) : Int := if ckD m l = 0 then (if (mnsD m l).length = ch.length /\ chOk ch (mnsD m l) then 0 else 2) else ckD m l
def mkC (m : Mn) (l : List Sg) (ch : List Int) : List Int := if mkE m l ch = 0 then (mkK ch l l.length).1 else []
def mkA (m : Mn) (l : List Sg) (ch : List Int) : List Bool := if mkE m l ch = 0 then (mkK ch l l.length).2.1 else []
set_option maxHeartbeats 4000000 in
theorem zjv (m : Mn) (l : List Sg) (hl : l.length <= 1000) (ch : List Int) : Fn Tryz.prog 85 [mnA m, sgsA l, yg ch] (.tup [yg (mkC m l ch), zbd (mkA m l ch), iv (mkE m l ch)]) := by
 obtain ⟨L0, hX, hM⟩ : ∃ L0, (ckD m l = 0 -> L0 = mnsD m l) /\ Fn Tryz.prog 148 [mnA m, sgsA l] (.tup [zb9 L0, iv (ckD m l)]) := ⟨_, fun h => if_pos h, C_dot_Meanings m l hl⟩;refine Fn.go Tryz.func85 Tryz.ntmps85 (fun g w d => ?_);apply yb;refine yH ?_;iterate 3 refine ya ?_
 apply yn;iterate 2 refine ya ?_
 refine yr hM ?_;refine y4 ?_;apply yd;apply yb;refine yh ?_;refine yk rfl ?_ ?_<;>intro hc1
 ·have hE : mkE m l ch = ckD m l := by unfold mkE; rw [if_neg hc1]
  have hC : mkC m l ch = [] := by unfold mkC; rw [if_neg (by rw [hE]; exact hc1)]
  have hA : mkA m l ch = [] := by unfold mkA; rw [if_neg (by rw [hE]; exact hc1)]
  apply yb;refine yX ?_;refine X.ret ?_;refine yu (yl (ts := [(6, yg []), (7, zbd []), (8, iv (ckD m l))]) (hs := [])) ?_;refine RetQ.ret (.many (by decide) (.cons (.tmp rfl (LeV.eq ?_)) (.cons (.tmp rfl (LeV.eq ?_)) (.cons (.tmp rfl (LeV.eq ?_)) .nil))));all_goals (first | (rw [hC]; done) | (rw [hA]; done) | (rw [hE]; done) | (rw [hC]; rfl) | (rw [hA]; rfl) | (rw [hE]; rfl))
 have hX2 := hX hc1;subst hX2;have hml := zfe m l;have hcf := zgW hc1;have hdl : (mnsD m l).length = (yU l l.length).length := by simp [mnsD]
 apply yf;apply yd;apply yb;refine y4 ?_;refine yk rfl ?_ ?_<;>intro hc2
 ·have hE : mkE m l ch = 2 := by unfold mkE; rw [if_pos hc1, if_neg (fun h => by have := h.1; omega)]
  have hC : mkC m l ch = [] := by unfold mkC; rw [if_neg (by omega)]
  have hA : mkA m l ch = [] := by unfold mkA; rw [if_neg (by omega)]
  apply yb;refine yp ?_;refine X.ret ?_;refine yu (yl (ts := [(6, yg []), (7, zbd []), (8, iv 2)]) (hs := [])) ?_;refine RetQ.ret (.many (by decide) (.cons (.tmp rfl (LeV.eq ?_)) (.cons (.tmp rfl (LeV.eq ?_)) (.cons (.tmp rfl (LeV.eq ?_)) .nil))));all_goals (first | (rw [hC]; done) | (rw [hA]; done) | (rw [hE]; done) | (rw [hC]; rfl) | (rw [hA]; rfl) | (rw [hE]; rfl))
 apply yf;apply yd;apply yb;refine yp ?_;apply X.block
 refine y9 (ι := Nat) (fun (k : Nat) => [(1, sgsA l), (2, yg ch), (9, zb9 (mnsD m l)), (33, zb9 (mnsD m l)), (34, iv (mnsD m l).length), (35, iv (k : Int))]) (fun (k : Nat) => []) (fun (k : Nat) => k <= (mnsD m l).length /\ ∀ i, i < k -> ∀ x v, (mnsD m l)[i]? = some x -> ch[i]? = some v -> v ∈ x) (fun (k : Nat) => (mnsD m l).length - k) 0 (fun k hk => ?_) (hJ := by
  exact ⟨by omega, fun i h => absurd h (Nat.not_lt_zero i)⟩)
 obtain ⟨hk1, hk2⟩ := hk;apply yb;refine ye ?_;apply yd;refine yk rfl ?_ ?_<;>intro hc3
 ·obtain ⟨x, hx⟩ : ∃ x, (mnsD m l)[k]? = some x := ⟨_, lgg (by omega)⟩;have hx2 : (mnsD m l)[(k : Int).toNat]? = some x := by simpa using hx
  obtain ⟨c, hcc⟩ : ∃ c, ch[k]? = some c := ⟨_, lgg (by omega)⟩;have hcc2 : ch[(k : Int).toNat]? = some c := by simpa using hcc
  have hxl := zh3 (List.mem_of_getElem? hx);apply yf;apply yd;apply X.block;apply yb;iterate 5 refine ya ?_
  apply yn;iterate 5 refine ya ?_
  refine yr (yV x c (by omega)) ?_;refine ye ?_;refine yk rfl ?_ ?_<;>intro hc4
  ·have hE : mkE m l ch = 2 := by unfold mkE; rw [if_pos hc1, if_neg (fun h => hc4 (zdE.1 h.2 k x c hx hcc))]
   have hC : mkC m l ch = [] := by unfold mkC; rw [if_neg (by omega)]
   have hA : mkA m l ch = [] := by unfold mkA; rw [if_neg (by omega)]
   apply yb;refine yp ?_;refine X.ret ?_;refine yu (yl (ts := [(6, yg []), (7, zbd []), (8, iv 2)]) (hs := [])) ?_;refine RetQ.ret (.many (by decide) (.cons (.tmp rfl (LeV.eq ?_)) (.cons (.tmp rfl (LeV.eq ?_)) (.cons (.tmp rfl (LeV.eq ?_)) .nil))));all_goals (first | (rw [hC]; done) | (rw [hA]; done) | (rw [hE]; done) | (rw [hC]; rfl) | (rw [hA]; rfl) | (rw [hE]; rfl))
  apply yf;apply yc;refine yh ?_
  refine yL (k + 1) (hJ := by
   refine ⟨by omega, fun i hi x1 v1 h1 h2 => ?_⟩;rcases Nat.lt_succ_iff_lt_or_eq.1 hi with h | h
   ·exact hk2 i h x1 v1 h1 h2
   ·subst h; rw [hx] at h1; rw [hcc] at h2; injection h1 with h1; injection h2 with h2; subst h1; subst h2; exact hc4)
 ·have hok : chOk ch (mnsD m l) := zdE.2 fun i x v hx hv => hk2 i (by have := (List.getElem?_eq_some_iff.1 hx).1; omega) x v hx hv
  have hE : mkE m l ch = 0 := by unfold mkE; rw [if_pos hc1, if_pos ⟨by omega, hok⟩]
  have hC : mkC m l ch = (mkK ch l l.length).1 := by unfold mkC; rw [if_pos hE]
  have hA : mkA m l ch = (mkK ch l l.length).2.1 := by unfold mkA; rw [if_pos hE]
  apply X.exit;apply yb;refine yJ ?_;apply yn;refine yJ ?_;apply Ex.nil;apply yd;refine y3 (zb8 intE 3 1 13 101 27 rfl rfl) ?_;refine y3 (zb8 zd 4 1 14 102 74 rfl rfl) ?_;apply yc;iterate 2 refine ya ?_
  apply yn;refine ye ?_;apply yd;apply yb;refine yp ?_;apply X.block;refine y9 (ι := Nat) (fun (k : Nat) => [(2, yg ch), (13, .ptr 13 0 0 0), (14, .ptr 14 0 0 0), (15, .fn 153 [.ptr 13 0 0 0, .ptr 14 0 0 0]), (16, iv ((mkK ch l k).2.2 : Int)), (49, sgsA l), (50, iv l.length), (51, iv (k : Int))]) (fun (k : Nat) => [(13, .box [.own 101] 27), (14, .box [.own 102] 74), (101, .row intE (mkK ch l k).1 3 1), (102, .row zd (mkK ch l k).2.1 4 1)]) (fun (k : Nat) => k <= l.length) (fun (k : Nat) => l.length - k) 0 (fun k hk => ?_);apply yb;refine ye ?_;apply yd;refine yk rfl ?_ ?_<;>intro hc5
  ·obtain ⟨s, hs⟩ : ∃ s, l[k]? = some s := ⟨_, lgg (by omega)⟩;have hs2 : l[(k : Int).toNat]? = some s := by simpa using hs
   obtain ⟨hm1, hm2, hm3⟩ := zgC ch l k;apply yf;apply yd;apply X.block;apply yb;(iterate 2 refine ya ?_);refine yJ ?_;refine yi ?_;apply Ex.nil;apply yd;apply yb;refine yp ?_;refine yk rfl ?_ ?_<;>intro hc6
   ·have h6 := zff (ch := ch) hs hc6;have hmo := zeQ l l.length (k + 1) (by omega);have hdk : (yU l (k + 1)).length = (yU l k).length + 1 := by simp [yU, hs, hc6]
    have hkp := zkU hcf hs hc6;have hpos := ziC (ch := ch) hcf k hkp (by omega);have hcq : ch[((mkK ch l k).2.2 : Int).toNat]? = some (ch.getD (mkK ch l k).2.2 0) := by rw [Int.toNat_natCast, List.getD_eq_getElem?_getD, lgg (by omega)]; rfl
    have hr1 : (mkK ch l k).1.set (((mkK ch l k).1.length : Int) - 1).toNat (ch.getD (mkK ch l k).2.2 0) = (mkK ch l (k + 1)).1 := by rw [h6]
    have hr2 : (mkK ch l k).2.1.set (((mkK ch l k).2.1.length : Int) - 1).toNat (decide (ch.getD (mkK ch l k).2.2 0 = 0)) = (mkK ch l (k + 1)).2.1 := by rw [h6]
    have hq1 : ((mkK ch l k).2.2 : Int) + 1 = ((mkK ch l (k + 1)).2.2 : Int) := by rw [h6]; simp
    apply yb;(iterate 5 refine ya ?_);refine za5 [(2000000, 13), (2000001, 14), (2000002, 101), (2000003, 102)] (zhL (ch.getD (mkK ch l k).2.2 0) (mkK ch l k).1 (mkK ch l k).2.1 (by omega) (by omega) (by omega) (by omega)) rfl rfl rfl (LeL.refl _) rfl rfl ⟨⟨_, _, rfl, rfl, LeB.refl _, rfl⟩, ⟨_, _, rfl, rfl, LeB.refl _, rfl⟩, ⟨_, _, rfl, rfl, LeB.refl _, rfl⟩, ⟨_, _, rfl, rfl, LeB.refl _, rfl⟩, trivial⟩ rfl rfl rfl rfl ?_;apply yn;refine yp ?_;apply X.exit;apply yc;refine yh ?_;refine yL (k + 1)
   have h6 := zdD (ch := ch) hs hc6;have hr1 : (mkK ch l k).1 ++ [0] = (mkK ch l (k + 1)).1 := by rw [h6]
   have hr2 : (mkK ch l k).2.1 ++ [false] = (mkK ch l (k + 1)).2.1 := by rw [h6]
   have hq1 : ((mkK ch l k).2.2 : Int) = ((mkK ch l (k + 1)).2.2 : Int) := by rw [h6]
   apply yf;refine znh [⟨[(2, yg ch), (13, .ptr 13 0 0 0), (14, .ptr 14 0 0 0), (15, .fn 153 [.ptr 13 0 0 0, .ptr 14 0 0 0]), (16, iv ((mkK ch l k).2.2 : Int)), (49, sgsA l), (50, iv l.length), (51, iv (k : Int))], [(13, .box [.own 101] 27), (14, .box [.own 102] 74), (101, .row intE ((mkK ch l k).1) 3 1), (102, .row zd ((mkK ch l k).2.1) 4 1)]⟩, ⟨[(2, yg ch), (13, .ptr 13 0 0 0), (14, .ptr 14 0 0 0), (15, .fn 153 [.ptr 13 0 0 0, .ptr 14 0 0 0]), (16, iv ((mkK ch l k).2.2 : Int)), (49, sgsA l), (50, iv l.length), (51, iv (k : Int)), (66, .own 101)], [(13, .box [.own 101] 27), (14, .box [.own 102] 74), (101, .row intE ((mkK ch l k).1) 3 1), (102, .row zd ((mkK ch l k).2.1) 4 1)]⟩, ⟨[(2, yg ch), (13, .ptr 13 0 0 0), (14, .ptr 14 0 0 0), (15, .fn 153 [.ptr 13 0 0 0, .ptr 14 0 0 0]), (16, iv ((mkK ch l k).2.2 : Int)), (49, sgsA l), (50, iv l.length), (51, iv (k : Int)), (67, .own 67)], [(67, .row intE [0] 3 1), (13, .box [.own 101] 27), (14, .box [.own 102] 74), (101, .row intE ((mkK ch l k).1) 3 1), (102, .row zd ((mkK ch l k).2.1) 4 1)]⟩, ⟨[(2, yg ch), (13, .ptr 13 0 0 0), (14, .ptr 14 0 0 0), (15, .fn 153 [.ptr 13 0 0 0, .ptr 14 0 0 0]), (16, iv ((mkK ch l k).2.2 : Int)), (49, sgsA l), (50, iv l.length), (51, iv (k : Int)), (69, .own 102)], [(13, .box [.own 101] 27), (14, .box [.own 102] 74), (101, .row intE ((mkK ch l k).1) 3 1), (102, .row zd ((mkK ch l k).2.1) 4 1)]⟩, ⟨[(2, yg ch), (13, .ptr 13 0 0 0), (14, .ptr 14 0 0 0), (15, .fn 153 [.ptr 13 0 0 0, .ptr 14 0 0 0]), (16, iv ((mkK ch l k).2.2 : Int)), (49, sgsA l), (50, iv l.length), (51, iv (k : Int)), (70, .own 70)], [(70, .row zd [false] 4 1), (13, .box [.own 101] 27), (14, .box [.own 102] 74), (101, .row intE ((mkK ch l k).1) 3 1), (102, .row zd ((mkK ch l k).2.1) 4 1)]⟩, ⟨[(2, yg ch), (13, .ptr 13 0 0 0), (14, .ptr 14 0 0 0), (15, .fn 153 [.ptr 13 0 0 0, .ptr 14 0 0 0]), (16, iv ((mkK ch l k).2.2 : Int)), (49, sgsA l), (50, iv l.length), (51, iv (k : Int)), (66, .own 101), (67, .own 67)], [(67, .row intE [0] 3 1), (13, .box [.own 101] 27), (14, .box [.own 102] 74), (101, .row intE ((mkK ch l k).1) 3 1), (102, .row zd ((mkK ch l k).2.1) 4 1)]⟩, ⟨[(2, yg ch), (13, .ptr 13 0 0 0), (14, .ptr 14 0 0 0), (15, .fn 153 [.ptr 13 0 0 0, .ptr 14 0 0 0]), (16, iv ((mkK ch l k).2.2 : Int)), (49, sgsA l), (50, iv l.length), (51, iv (k : Int)), (66, .own 101), (69, .own 102)], [(13, .box [.own 101] 27), (14, .box [.own 102] 74), (101, .row intE ((mkK ch l k).1) 3 1), (102, .row zd ((mkK ch l k).2.1) 4 1)]⟩, ⟨[(2, yg ch), (13, .ptr 13 0 0 0), (14, .ptr 14 0 0 0), (15, .fn 153 [.ptr 13 0 0 0, .ptr 14 0 0 0]), (16, iv ((mkK ch l k).2.2 : Int)), (49, sgsA l), (50, iv l.length), (51, iv (k : Int)), (66, .own 101), (70, .own 70)], [(70, .row zd [false] 4 1), (13, .box [.own 101] 27), (14, .box [.own 102] 74), (101, .row intE ((mkK ch l k).1) 3 1), (102, .row zd ((mkK ch l k).2.1) 4 1)]⟩, ⟨[(2, yg ch), (13, .ptr 13 0 0 0), (14, .ptr 14 0 0 0), (15, .fn 153 [.ptr 13 0 0 0, .ptr 14 0 0 0]), (16, iv ((mkK ch l k).2.2 : Int)), (49, sgsA l), (50, iv l.length), (51, iv (k : Int)), (67, .own 67), (69, .own 102)], [(67, .row intE [0] 3 1), (13, .box [.own 101] 27), (14, .box [.own 102] 74), (101, .row intE ((mkK ch l k).1) 3 1), (102, .row zd ((mkK ch l k).2.1) 4 1)]⟩, ⟨[(2, yg ch), (13, .ptr 13 0 0 0), (14, .ptr 14 0 0 0), (15, .fn 153 [.ptr 13 0 0 0, .ptr 14 0 0 0]), (16, iv ((mkK ch l k).2.2 : Int)), (49, sgsA l), (50, iv l.length), (51, iv (k : Int)), (67, .own 67), (70, .own 70)], [(67, .row intE [0] 3 1), (70, .row zd [false] 4 1), (13, .box [.own 101] 27), (14, .box [.own 102] 74), (101, .row intE ((mkK ch l k).1) 3 1), (102, .row zd ((mkK ch l k).2.1) 4 1)]⟩, ⟨[(2, yg ch), (13, .ptr 13 0 0 0), (14, .ptr 14 0 0 0), (15, .fn 153 [.ptr 13 0 0 0, .ptr 14 0 0 0]), (16, iv ((mkK ch l k).2.2 : Int)), (49, sgsA l), (50, iv l.length), (51, iv (k : Int)), (69, .own 102), (70, .own 70)], [(70, .row zd [false] 4 1), (13, .box [.own 101] 27), (14, .box [.own 102] 74), (101, .row intE ((mkK ch l k).1) 3 1), (102, .row zd ((mkK ch l k).2.1) 4 1)]⟩, ⟨[(2, yg ch), (13, .ptr 13 0 0 0), (14, .ptr 14 0 0 0), (15, .fn 153 [.ptr 13 0 0 0, .ptr 14 0 0 0]), (16, iv ((mkK ch l k).2.2 : Int)), (49, sgsA l), (50, iv l.length), (51, iv (k : Int)), (68, .own 101)], [(13, .box [.any] 27), (14, .box [.own 102] 74), (101, .row intE ((mkK ch l k).1 ++ [0]) 3 1), (102, .row zd ((mkK ch l k).2.1) 4 1)]⟩, ⟨[(2, yg ch), (13, .ptr 13 0 0 0), (14, .ptr 14 0 0 0), (15, .fn 153 [.ptr 13 0 0 0, .ptr 14 0 0 0]), (16, iv ((mkK ch l k).2.2 : Int)), (49, sgsA l), (50, iv l.length), (51, iv (k : Int)), (66, .own 101), (67, .own 67), (69, .own 102)], [(67, .row intE [0] 3 1), (13, .box [.own 101] 27), (14, .box [.own 102] 74), (101, .row intE ((mkK ch l k).1) 3 1), (102, .row zd ((mkK ch l k).2.1) 4 1)]⟩, ⟨[(2, yg ch), (13, .ptr 13 0 0 0), (14, .ptr 14 0 0 0), (15, .fn 153 [.ptr 13 0 0 0, .ptr 14 0 0 0]), (16, iv ((mkK ch l k).2.2 : Int)), (49, sgsA l), (50, iv l.length), (51, iv (k : Int)), (66, .own 101), (67, .own 67), (70, .own 70)], [(67, .row intE [0] 3 1), (70, .row zd [false] 4 1), (13, .box [.own 101] 27), (14, .box [.own 102] 74), (101, .row intE ((mkK ch l k).1) 3 1), (102, .row zd ((mkK ch l k).2.1) 4 1)]⟩, ⟨[(2, yg ch), (13, .ptr 13 0 0 0), (14, .ptr 14 0 0 0), (15, .fn 153 [.ptr 13 0 0 0, .ptr 14 0 0 0]), (16, iv ((mkK ch l k).2.2 : Int)), (49, sgsA l), (50, iv l.length), (51, iv (k : Int)), (66, .own 101), (69, .own 102), (70, .own 70)], [(70, .row zd [false] 4 1), (13, .box [.own 101] 27), (14, .box [.own 102] 74), (101, .row intE ((mkK ch l k).1) 3 1), (102, .row zd ((mkK ch l k).2.1) 4 1)]⟩, ⟨[(2, yg ch), (13, .ptr 13 0 0 0), (14, .ptr 14 0 0 0), (15, .fn 153 [.ptr 13 0 0 0, .ptr 14 0 0 0]), (16, iv ((mkK ch l k).2.2 : Int)), (49, sgsA l), (50, iv l.length), (51, iv (k : Int)), (67, .own 67), (69, .own 102), (70, .own 70)], [(67, .row intE [0] 3 1), (70, .row zd [false] 4 1), (13, .box [.own 101] 27), (14, .box [.own 102] 74), (101, .row intE ((mkK ch l k).1) 3 1), (102, .row zd ((mkK ch l k).2.1) 4 1)]⟩, ⟨[(2, yg ch), (13, .ptr 13 0 0 0), (14, .ptr 14 0 0 0), (15, .fn 153 [.ptr 13 0 0 0, .ptr 14 0 0 0]), (16, iv ((mkK ch l k).2.2 : Int)), (49, sgsA l), (50, iv l.length), (51, iv (k : Int)), (68, .own 101), (69, .own 102)], [(13, .box [.any] 27), (14, .box [.own 102] 74), (101, .row intE ((mkK ch l k).1 ++ [0]) 3 1), (102, .row zd ((mkK ch l k).2.1) 4 1)]⟩, ⟨[(2, yg ch), (13, .ptr 13 0 0 0), (14, .ptr 14 0 0 0), (15, .fn 153 [.ptr 13 0 0 0, .ptr 14 0 0 0]), (16, iv ((mkK ch l k).2.2 : Int)), (49, sgsA l), (50, iv l.length), (51, iv (k : Int)), (68, .own 101), (70, .own 70)], [(70, .row zd [false] 4 1), (13, .box [.any] 27), (14, .box [.own 102] 74), (101, .row intE ((mkK ch l k).1 ++ [0]) 3 1), (102, .row zd ((mkK ch l k).2.1) 4 1)]⟩, ⟨[(2, yg ch), (13, .ptr 13 0 0 0), (14, .ptr 14 0 0 0), (15, .fn 153 [.ptr 13 0 0 0, .ptr 14 0 0 0]), (16, iv ((mkK ch l k).2.2 : Int)), (49, sgsA l), (50, iv l.length), (51, iv (k : Int)), (66, .own 101), (67, .own 67), (69, .own 102), (70, .own 70)], [(67, .row intE [0] 3 1), (70, .row zd [false] 4 1), (13, .box [.own 101] 27), (14, .box [.own 102] 74), (101, .row intE ((mkK ch l k).1) 3 1), (102, .row zd ((mkK ch l k).2.1) 4 1)]⟩, ⟨[(2, yg ch), (13, .ptr 13 0 0 0), (14, .ptr 14 0 0 0), (15, .fn 153 [.ptr 13 0 0 0, .ptr 14 0 0 0]), (16, iv ((mkK ch l k).2.2 : Int)), (49, sgsA l), (50, iv l.length), (51, iv (k : Int)), (68, .own 101), (69, .own 102), (70, .own 70)], [(70, .row zd [false] 4 1), (13, .box [.any] 27), (14, .box [.own 102] 74), (101, .row intE ((mkK ch l k).1 ++ [0]) 3 1), (102, .row zd ((mkK ch l k).2.1) 4 1)]⟩, ⟨[(2, yg ch), (13, .ptr 13 0 0 0), (14, .ptr 14 0 0 0), (15, .fn 153 [.ptr 13 0 0 0, .ptr 14 0 0 0]), (16, iv ((mkK ch l k).2.2 : Int)), (49, sgsA l), (50, iv l.length), (51, iv (k : Int)), (68, .own 101), (71, .own 102)], [(13, .box [.any] 27), (14, .box [.any] 74), (101, .row intE ((mkK ch l k).1 ++ [0]) 3 1), (102, .row zd ((mkK ch l k).2.1 ++ [false]) 4 1)]⟩, ⟨[(2, yg ch), (13, .ptr 13 0 0 0), (14, .ptr 14 0 0 0), (15, .fn 153 [.ptr 13 0 0 0, .ptr 14 0 0 0]), (16, iv ((mkK ch l k).2.2 : Int)), (49, sgsA l), (50, iv l.length), (51, iv (k : Int)), (71, .own 102)], [(13, .box [.own 101] 27), (14, .box [.any] 74), (101, .row intE ((mkK ch l k).1 ++ [0]) 3 1), (102, .row zd ((mkK ch l k).2.1 ++ [false]) 4 1)]⟩, ⟨[(2, yg ch), (13, .ptr 13 0 0 0), (14, .ptr 14 0 0 0), (15, .fn 153 [.ptr 13 0 0 0, .ptr 14 0 0 0]), (16, iv ((mkK ch l k).2.2 : Int)), (49, sgsA l), (50, iv l.length), (51, iv (k : Int))], [(13, .box [.own 101] 27), (14, .box [.own 102] 74), (101, .row intE ((mkK ch l k).1 ++ [0]) 3 1), (102, .row zd ((mkK ch l k).2.1 ++ [false]) 4 1)]⟩] [[false, false, false, false, false, false, false, false], [true, false, false, false, false, false, false, false], [false, true, false, false, false, false, false, false], [false, false, false, true, false, false, false, false], [false, false, false, false, true, false, false, false], [true, true, false, false, false, false, false, false], [true, false, false, true, false, false, false, false], [true, false, false, false, true, false, false, false], [false, true, false, true, false, false, false, false], [false, true, false, false, true, false, false, false], [false, false, false, true, true, false, false, false], [true, true, true, false, false, false, false, false], [true, true, false, true, false, false, false, false], [true, true, false, false, true, false, false, false], [true, false, false, true, true, false, false, false], [false, true, false, true, true, false, false, false], [true, true, true, true, false, false, false, false], [true, true, true, false, true, false, false, false], [true, true, false, true, true, false, false, false], [true, true, true, true, true, false, false, false], [true, true, true, true, true, true, false, false], [true, true, true, true, true, true, true, false], [true, true, true, true, true, true, true, true]] [(0, 0, 1), (0, 1, 2), (0, 3, 3), (0, 4, 4), (1, 1, 5), (1, 3, 6), (1, 4, 7), (2, 0, 5), (2, 3, 8), (2, 4, 9), (3, 0, 6), (3, 1, 8), (3, 4, 10), (4, 0, 7), (4, 1, 9), (4, 3, 10), (5, 2, 11), (5, 3, 12), (5, 4, 13), (6, 1, 12), (6, 4, 14), (7, 1, 13), (7, 3, 14), (8, 0, 12), (8, 4, 15), (9, 0, 13), (9, 3, 15), (10, 0, 14), (10, 1, 15), (11, 3, 16), (11, 4, 17), (12, 2, 16), (12, 4, 18), (13, 2, 17), (13, 3, 18), (14, 1, 18), (15, 0, 18), (16, 4, 19), (17, 3, 19), (18, 2, 19), (19, 5, 20), (20, 6, 21), (21, 7, 22)] 22 mo rfl rfl yl (by kernel_rfl) rfl (by kernel_rfl) rfl ?_ ?_
   ·refine ⟨⟨_, _, rfl, rfl, yw rfl (yq (yD (Pur.stepA (yY rfl rfl rfl ty27)) rfl rfl) yl)⟩, ?_⟩;refine ⟨⟨_, _, rfl, rfl, yw rfl (yq (yD (yT (k := 67) (enc := intE) (l := [0]) sl27 ty3 ze3 (by decide) rfl rfl rfl rfl (by decide) (by decide) (fun _ => rfl) rfl) rfl rfl) yl)⟩, ?_⟩;refine ⟨⟨_, _, rfl, rfl, yw rfl (yq (yD (Pur.stepA (yY rfl rfl rfl ty74)) rfl rfl) yl)⟩, ?_⟩;refine ⟨⟨_, _, rfl, rfl, yw rfl (yq (yD (yT (k := 70) (enc := zd) (l := [false]) sl74 ty4 ze4 (by decide) rfl rfl rfl rfl (by decide) (by decide) (fun _ => rfl) rfl) rfl rfl) yl)⟩, ?_⟩;refine ⟨⟨_, _, rfl, rfl, yw rfl (yq (yD (yT (k := 67) (enc := intE) (l := [0]) sl27 ty3 ze3 (by decide) rfl rfl rfl rfl (by decide) (by decide) (fun _ => rfl) rfl) rfl rfl) yl)⟩, ?_⟩;refine ⟨⟨_, _, rfl, rfl, yw rfl (yq (yD (Pur.stepA (yY rfl rfl rfl ty74)) rfl rfl) yl)⟩, ?_⟩;refine ⟨⟨_, _, rfl, rfl, yw rfl (yq (yD (yT (k := 70) (enc := zd) (l := [false]) sl74 ty4 ze4 (by decide) rfl rfl rfl rfl (by decide) (by decide) (fun _ => rfl) rfl) rfl rfl) yl)⟩, ?_⟩;refine ⟨⟨_, _, rfl, rfl, yw rfl (yq (yD (Pur.stepA (yY rfl rfl rfl ty27)) rfl rfl) yl)⟩, ?_⟩;refine ⟨⟨_, _, rfl, rfl, yw rfl (yq (yD (Pur.stepA (yY rfl rfl rfl ty74)) rfl rfl) yl)⟩, ?_⟩;refine ⟨⟨_, _, rfl, rfl, yw rfl (yq (yD (yT (k := 70) (enc := zd) (l := [false]) sl74 ty4 ze4 (by decide) rfl rfl rfl rfl (by decide) (by decide) (fun _ => rfl) rfl) rfl rfl) yl)⟩, ?_⟩;refine ⟨⟨_, _, rfl, rfl, yw rfl (yq (yD (Pur.stepA (yY rfl rfl rfl ty27)) rfl rfl) yl)⟩, ?_⟩;refine ⟨⟨_, _, rfl, rfl, yw rfl (yq (yD (yT (k := 67) (enc := intE) (l := [0]) sl27 ty3 ze3 (by decide) rfl rfl rfl rfl (by decide) (by decide) (fun _ => rfl) rfl) rfl rfl) yl)⟩, ?_⟩;refine ⟨⟨_, _, rfl, rfl, yw rfl (yq (yD (yT (k := 70) (enc := zd) (l := [false]) sl74 ty4 ze4 (by decide) rfl rfl rfl rfl (by decide) (by decide) (fun _ => rfl) rfl) rfl rfl) yl)⟩, ?_⟩;refine ⟨⟨_, _, rfl, rfl, yw rfl (yq (yD (Pur.stepA (yY rfl rfl rfl ty27)) rfl rfl) yl)⟩, ?_⟩;refine ⟨⟨_, _, rfl, rfl, yw rfl (yq (yD (yT (k := 67) (enc := intE) (l := [0]) sl27 ty3 ze3 (by decide) rfl rfl rfl rfl (by decide) (by decide) (fun _ => rfl) rfl) rfl rfl) yl)⟩, ?_⟩;refine ⟨⟨_, _, rfl, rfl, yw rfl (yq (yD (Pur.stepA (yY rfl rfl rfl ty74)) rfl rfl) yl)⟩, ?_⟩;refine ⟨⟨_, _, rfl, rfl, yw rfl (yq (zaC (enc := intE) (l := (mkK ch l k).1) (l2 := [0]) rfl rfl rfl rfl sl27 ti3 (by decide) (by decide) (fun _ => rfl) (fun _ => rfl) (by simp; omega) rfl) yl)⟩, ?_⟩;refine ⟨⟨_, _, rfl, rfl, yw rfl (yq (yD (Pur.stepA (yY rfl rfl rfl ty74)) rfl rfl) yl)⟩, ?_⟩;refine ⟨⟨_, _, rfl, rfl, yw rfl (yq (yD (yT (k := 70) (enc := zd) (l := [false]) sl74 ty4 ze4 (by decide) rfl rfl rfl rfl (by decide) (by decide) (fun _ => rfl) rfl) rfl rfl) yl)⟩, ?_⟩;refine ⟨⟨_, _, rfl, rfl, yw rfl (yq (yD (yT (k := 67) (enc := intE) (l := [0]) sl27 ty3 ze3 (by decide) rfl rfl rfl rfl (by decide) (by decide) (fun _ => rfl) rfl) rfl rfl) yl)⟩, ?_⟩;refine ⟨⟨_, _, rfl, rfl, yw rfl (yq (yD (yT (k := 70) (enc := zd) (l := [false]) sl74 ty4 ze4 (by decide) rfl rfl rfl rfl (by decide) (by decide) (fun _ => rfl) rfl) rfl rfl) yl)⟩, ?_⟩;refine ⟨⟨_, _, rfl, rfl, yw rfl (yq (yD (yT (k := 67) (enc := intE) (l := [0]) sl27 ty3 ze3 (by decide) rfl rfl rfl rfl (by decide) (by decide) (fun _ => rfl) rfl) rfl rfl) yl)⟩, ?_⟩;refine ⟨⟨_, _, rfl, rfl, yw rfl (yq (yD (Pur.stepA (yY rfl rfl rfl ty74)) rfl rfl) yl)⟩, ?_⟩;refine ⟨⟨_, _, rfl, rfl, yw rfl (yq (yD (Pur.stepA (yY rfl rfl rfl ty27)) rfl rfl) yl)⟩, ?_⟩;refine ⟨⟨_, _, rfl, rfl, yw rfl (yq (yD (yT (k := 70) (enc := zd) (l := [false]) sl74 ty4 ze4 (by decide) rfl rfl rfl rfl (by decide) (by decide) (fun _ => rfl) rfl) rfl rfl) yl)⟩, ?_⟩;refine ⟨⟨_, _, rfl, rfl, yw rfl (yq (yD (Pur.stepA (yY rfl rfl rfl ty27)) rfl rfl) yl)⟩, ?_⟩;refine ⟨⟨_, _, rfl, rfl, yw rfl (yq (yD (Pur.stepA (yY rfl rfl rfl ty74)) rfl rfl) yl)⟩, ?_⟩;refine ⟨⟨_, _, rfl, rfl, yw rfl (yq (yD (Pur.stepA (yY rfl rfl rfl ty27)) rfl rfl) yl)⟩, ?_⟩;refine ⟨⟨_, _, rfl, rfl, yw rfl (yq (yD (yT (k := 67) (enc := intE) (l := [0]) sl27 ty3 ze3 (by decide) rfl rfl rfl rfl (by decide) (by decide) (fun _ => rfl) rfl) rfl rfl) yl)⟩, ?_⟩;refine ⟨⟨_, _, rfl, rfl, yw rfl (yq (yD (Pur.stepA (yY rfl rfl rfl ty74)) rfl rfl) yl)⟩, ?_⟩;refine ⟨⟨_, _, rfl, rfl, yw rfl (yq (yD (yT (k := 70) (enc := zd) (l := [false]) sl74 ty4 ze4 (by decide) rfl rfl rfl rfl (by decide) (by decide) (fun _ => rfl) rfl) rfl rfl) yl)⟩, ?_⟩;refine ⟨⟨_, _, rfl, rfl, yw rfl (yq (zaC (enc := intE) (l := (mkK ch l k).1) (l2 := [0]) rfl rfl rfl rfl sl27 ti3 (by decide) (by decide) (fun _ => rfl) (fun _ => rfl) (by simp; omega) rfl) yl)⟩, ?_⟩;refine ⟨⟨_, _, rfl, rfl, yw rfl (yq (yD (yT (k := 70) (enc := zd) (l := [false]) sl74 ty4 ze4 (by decide) rfl rfl rfl rfl (by decide) (by decide) (fun _ => rfl) rfl) rfl rfl) yl)⟩, ?_⟩;refine ⟨⟨_, _, rfl, rfl, yw rfl (yq (zaC (enc := intE) (l := (mkK ch l k).1) (l2 := [0]) rfl rfl rfl rfl sl27 ti3 (by decide) (by decide) (fun _ => rfl) (fun _ => rfl) (by simp; omega) rfl) yl)⟩, ?_⟩;refine ⟨⟨_, _, rfl, rfl, yw rfl (yq (yD (Pur.stepA (yY rfl rfl rfl ty74)) rfl rfl) yl)⟩, ?_⟩;refine ⟨⟨_, _, rfl, rfl, yw rfl (yq (yD (yT (k := 67) (enc := intE) (l := [0]) sl27 ty3 ze3 (by decide) rfl rfl rfl rfl (by decide) (by decide) (fun _ => rfl) rfl) rfl rfl) yl)⟩, ?_⟩;refine ⟨⟨_, _, rfl, rfl, yw rfl (yq (yD (Pur.stepA (yY rfl rfl rfl ty27)) rfl rfl) yl)⟩, ?_⟩;refine ⟨⟨_, _, rfl, rfl, yw rfl (yq (yD (yT (k := 70) (enc := zd) (l := [false]) sl74 ty4 ze4 (by decide) rfl rfl rfl rfl (by decide) (by decide) (fun _ => rfl) rfl) rfl rfl) yl)⟩, ?_⟩;refine ⟨⟨_, _, rfl, rfl, yw rfl (yq (yD (Pur.stepA (yY rfl rfl rfl ty74)) rfl rfl) yl)⟩, ?_⟩;refine ⟨⟨_, _, rfl, rfl, yw rfl (yq (zaC (enc := intE) (l := (mkK ch l k).1) (l2 := [0]) rfl rfl rfl rfl sl27 ti3 (by decide) (by decide) (fun _ => rfl) (fun _ => rfl) (by simp; omega) rfl) yl)⟩, ?_⟩;refine ⟨⟨_, _, rfl, rfl, yw rfl (yq (zaC (enc := zd) (l := (mkK ch l k).2.1) (l2 := [false]) rfl rfl rfl rfl sl74 ti4 (by decide) (by decide) (fun _ => rfl) (fun _ => rfl) (by simp; omega) rfl) yl)⟩, ?_⟩;refine ⟨⟨_, _, rfl, rfl, yw rfl (yq (zam rfl rfl rfl rfl ty27 (ltB rfl)) yl)⟩, ?_⟩;refine ⟨⟨_, _, rfl, rfl, yw rfl (yq (zam rfl rfl rfl rfl ty74 (ltB rfl)) yl)⟩, ?_⟩;exact True.intro
   apply yc;refine yh ?_;refine yL (k + 1)
  ·have hkl : k = l.length := by omega
   subst hkl;apply X.exit;apply yd;refine zi [6,7,8,73,74] [0,0,1,7,15] mo ?_;(iterate 5 refine yj ?_);refine yR ?_;apply Ex.nil;refine X.ret ?_;refine yu ((Imp.freeze (k := 101) rfl).trans (Imp.freeze (k := 102) rfl)) ?_;refine RetQ.ret (.many (by decide) (.cons (.tmp rfl (LeV.eq ?_)) (.cons (.tmp rfl (LeV.eq ?_)) (.cons (.tmp rfl (LeV.eq ?_)) .nil))));all_goals (first | (rw [hC]; done) | (rw [hA]; done) | (rw [hE]; done) | (rw [hC]; rfl) | (rw [hA]; rfl) | (rw [hE]; rfl))
end Go.Rse
