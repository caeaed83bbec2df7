/-
  Walks: the meaning of each dot by the rule.
-/
import Derived.Test.YtkpbljifckjeoaaGreatDoorQJSlice1
import Derived.Test.YtkpbljifckjeoaaGreatDoorQLogB
import Derived.Test.YtkpbljifckjeoaaGreatDoorQLogC
set_option linter.unusedSimpArgs false
set_option linter.unusedVariables false
namespace Go.Rse
open Go Go.Proofs
attribute [local irreducible] Pur yC yE Ex X Fn Imp LeV LeB FnO It yJ
def zee (l : List Sg) (i : Int) : Int := match l[(i + 1).toNat]? with | some s => s.Value | none => 9
def zaC (m : Mn) (l : List Sg) (i : Int) (p : Sg) : Int :=
 if (mngs m p).length = 2 then (if zee l i <= p.Value then m.aV p.Value else if m.pV p.Value = 3 then p.Value else 0) else (mngs m p).headD 0
def zcp (m : Mn) (l : List Sg) (i : Int) : Int := match zga l i with | some p => zaC m l i p | none => 0
def z6 (m : Mn) (l : List Sg) : List Int := (y7 l l.length).map (zcp m l)
theorem zlh {m : Mn} {l : List Sg} {L : List Int} {k : Nat} {x : Int} {p : Sg} (h : L[k]? = some x) (hp : l[(x - 1).toNat]? = some p) : (L.take k).map (zcp m l) ++ [zaC m l x p] = (L.take (k + 1)).map (zcp m l) := by
 have e : zcp m l x = zaC m l x p := by unfold zcp zga; rw [hp]
 rw [List.take_add_one, h];simp [e]
theorem ziE {m : Mn} {l : List Sg} (h : zaa m l 0 l = 0) : ∀ k, k <= l.length -> ∀ x, x ∈ y7 l k -> ∀ p, l[(x - 1).toNat]? = some p -> (mngs m p).length ≠ 0
 | 0, _, x, hx => by simp [y7] at hx
 | k + 1, hk, x, hx => by
  simp only [y7, List.mem_append] at hx;rcases hx with hx | hx
  ·exact ziE h k (by omega) x hx
  ·have hs : l[k]? = some l[k] := lgg (by omega);simp only [hs] at hx;split at hx
   ·rename_i hK;have h0 := (zaE h (k + 1) hk).2 k _ (by omega) hs;simp at hx;intro p hp;cases k with
    | zero => unfold sgF at h0; rw [if_neg (by omega), if_pos hK] at h0; simp at h0
    | succ j =>
     rw [show (x - 1).toNat = j by omega] at hp;unfold sgF at h0;rw [if_neg (by omega), if_pos hK] at h0;simp only [hp] at h0;intro hz;rw [if_pos (.inr hz)] at h0;simp at h0
   ·simp at hx
theorem zlM {m : Mn} {l : List Sg} {k : Nat} {x : Int} {p : Sg} (h : (y7 l l.length)[k]? = some x) (hp : l[(x - 1).toNat]? = some p) : (mnsD m l)[k]? = some (mngs m p) := by
 have e : mnAt m l x = mngs m p := by unfold mnAt zga; rw [hp]
 rw [mnsD, List.getElem?_map, h];simp [e]
theorem zhJ (l : List Sg) (hl : l.length <= 1000) (i : Int) (h0 : 0 <= i) (h1 : i <= 1000) : Fn Tryz.prog 122 [iv i, .ept (fun _ : Unit => [sgsA l]) () 0] (iv (zee l i)) := by
 refine Fn.go Tryz.func122 Tryz.ntmps122 (fun g w d => ?_);apply yb;refine ye ?_;apply yd;apply yb;refine zu ?_;refine yl rfl ?_ ?_<;>intro hc1
 ·obtain ⟨s, hs⟩ : ∃ s, l[(i + 1).toNat]? = some s := ⟨_, lgg (by omega)⟩;apply yb;iterate 6 refine ya ?_
  refine ye ?_;refine X.ret ?_;refine yh ?_;all_goals (congr 1; unfold zee; rw [hs])
 have hs : l[(i + 1).toNat]? = none := List.getElem?_eq_none (by omega);apply yf;apply yb;refine ye ?_;refine X.ret ?_;refine yh ?_;all_goals (congr 1; unfold zee; rw [hs])
theorem zjs (m : Mn) (l : List Sg) (hl : l.length <= 1000) : Fn Tryz.prog 91 [mnA m, sgsA l] (.tup [ym (if ckD m l = 0 then z6 m l else []), iv (ckD m l)]) := by
 refine Fn.go Tryz.func91 Tryz.ntmps91 (fun g w d => ?_);apply yb;refine yF ?_;refine zbr ?_;iterate 2 refine ya ?_
 apply yi;iterate 2 refine ya ?_
 refine yj (C_dot_Meanings m l hl) ?_;refine zu ?_;apply yd;apply yb;refine yg ?_;refine yl rfl ?_ ?_<;>intro hc1
 ·apply yb;refine yo ?_;refine X.ret ?_;refine RetQ.imp (yn (ts := [(4, ym []), (5, iv (ckD m l))]) (hs := [])) ?_;refine yw ?_ ?_;all_goals (first | (simp [hc1]; done) | (rw [if_pos hc1, ← hfin]; rfl) | (rw [if_neg hc1]) | (rw [hc1]; rfl) | rfl)
 apply yf;apply yd;refine X.imp (yT (k := 3) rfl rfl) ?_;have hms : (if ckD m l = 0 then mnsD m l else []) = mnsD m l := if_pos hc1;rw [hms]
 have hcf : zaa m l 0 l = 0 := by unfold ckD at hc1; split at hc1
                                  ·exact hc1
                                  ·exact absurd hc1 (by assumption)
 apply yc;iterate 2 refine ya ?_
 apply yi;refine ye ?_;iterate 2 apply yd
 refine X.imp (ze intE 3 1 9 9 rfl rfl) ?_;apply yc;refine ya ?_;refine yj (zf9 l hl) ?_;refine yg ?_;apply X.block;have hdl := zcg l l.length;refine zl (ι := Nat) (fun (k : Nat) => [(2, .ptr 2 0 0 0), (3, .ept (fun _ : Unit => [sgsA l]) () 0), (5, iv 0), (6, zeZ (mnsD m l)), (8, .fn 122 [.ept (fun _ : Unit => [sgsA l]) () 0]), (9, .own 9), (29, ym (y7 l l.length)), (30, iv (y7 l l.length).length), (31, iv (k : Int))]) (fun (k : Nat) => [(2, .box (mnE m) 32), (9, .row intE (((y7 l l.length).take k).map (zcp m l)) 3 1)]) (fun (k : Nat) => k <= (y7 l l.length).length) (fun (k : Nat) => (y7 l l.length).length - k) 0 (fun k hk => ?_);apply yb;refine ye ?_;apply yd;refine yl rfl ?_ ?_<;>intro hc2
 ·obtain ⟨x, hx⟩ : ∃ x, (y7 l l.length)[k]? = some x := ⟨_, lgg (by omega)⟩;have hx2 : (y7 l l.length)[(k : Int).toNat]? = some x := by simpa using hx
  obtain ⟨j, s, p, hj1, hj2, hj3⟩ := zds hcf l.length (Nat.le_refl _) x (List.mem_of_getElem? hx);have hjl : j + 1 < l.length := (List.getElem?_eq_some_iff.1 hj2).1;have hp : l[(x - 1).toNat]? = some p := by rw [show (x - 1).toNat = j by omega]; exact hj3
  have hne := ziE hcf l.length (Nat.le_refl _) x (List.mem_of_getElem? hx) p hp;have hmk : (mnsD m l)[(k : Int).toNat]? = some (mngs m p) := by simpa using zlM (m := m) hx hp
  obtain ⟨c0, hc0⟩ : ∃ c0, (mngs m p)[(0 : Int).toNat]? = some c0 := ⟨_, lgg (by simp; omega)⟩
  have hhd : (mngs m p).headD 0 = c0 := by
   cases hq : mngs m p with
   | nil => simp [hq] at hne
   | cons a b => simp [hq] at hc0; simp [hc0]
  have hrow2 := zlh (m := m) hx hp;have htl : (((y7 l l.length).take k).map (zcp m l)).length <= 1000 := by simp; omega
  apply yf;apply yd;apply X.block;apply yb;iterate 5 refine ya ?_
  apply yi;iterate 7 refine ya ?_
  apply yi;iterate 6 refine ya ?_
  refine ye ?_;apply yd;apply yb;iterate 5 refine ya ?_
  refine ye ?_;refine yl rfl ?_ ?_<;>intro hc3
  ·apply yb;(iterate 2 refine ya ?_);refine yj (zcw m p.Value) ?_;(iterate 5 refine ya ?_);apply yi;(iterate 2 refine ya ?_);refine yj (zeu m p.Value) ?_;refine zu ?_;apply X.block;apply yb;(iterate 2 refine ya ?_);refine yj (zhJ l hl x (by omega) (by omega)) ?_;refine yo ?_;refine yl rfl ?_ ?_<;>intro hc4
   ·have hch : zaC m l x p = m.aV p.Value := by unfold zaC; rw [if_pos (by omega), if_pos hc4]
    rw [hch] at hrow2;apply yc;refine yg ?_;apply yc;(iterate 2 refine ya ?_);refine yW intE [_] ?_;refine Ex.mo ?_;refine ye ?_;apply yc;refine yg ?_;refine yM (k + 1)
   ·apply yb;refine yo ?_;refine yl rfl ?_ ?_<;>intro hc5
    ·have hc6 : m.pV p.Value = 3 := hc5;have hch : zaC m l x p = p.Value := by unfold zaC; rw [if_pos (by omega), if_neg (by omega), if_pos hc6]
     rw [hch] at hrow2;apply yc;refine yg ?_;apply yc;(iterate 2 refine ya ?_);refine yW intE [_] ?_;refine Ex.mo ?_;refine ye ?_;apply yc;refine yg ?_;refine yM (k + 1)
    ·have hc6 : ¬ m.pV p.Value = 3 := hc5;have hch : zaC m l x p = 0 := by unfold zaC; rw [if_pos (by omega), if_neg (by omega), if_neg hc6]
     rw [hch] at hrow2;apply yc;refine ye ?_;apply yc;(iterate 2 refine ya ?_);refine yW intE [_] ?_;refine Ex.mo ?_;refine ye ?_;apply yc;refine yg ?_;refine yM (k + 1)
  ·have hch : zaC m l x p = c0 := by unfold zaC; rw [if_neg (by omega), hhd]
   rw [hch] at hrow2;apply yf;apply yc;(iterate 2 refine ya ?_);refine yW intE [_] ?_;refine Ex.mo ?_;refine ye ?_;apply yc;refine yg ?_;refine yM (k + 1)
 ·have hkl : k = (y7 l l.length).length := by omega
  subst hkl;have hfin : ((y7 l l.length).take (y7 l l.length).length).map (zcp m l) = z6 m l := by rw [List.take_length]; rfl
  apply X.exit;apply yb;refine yo ?_;refine X.ret ?_;refine RetQ.imp (Imp.freeze (k := 9) rfl) ?_;refine yw ?_ ?_;all_goals (first | (simp [hc1]; done) | (rw [if_pos hc1, ← hfin]; rfl) | (rw [if_neg hc1]) | (rw [hc1]; rfl) | rfl)
end Go.Rse
namespace Go.Rse
open Go Go.Proofs
attribute [local irreducible] Pur yC yE Ex X Fn Imp LeV LeB FnO It yJ
attribute [local irreducible] mnsD ckD
end Go.Rse
namespace Go.Rse
open Go Go.Proofs
attribute [local irreducible] Pur yC yE Ex X Fn Imp LeV LeB FnO It yJ
theorem zlN (x : Int) (l : List Int) : decide (0 <= fidx (fun u => decide (x = u)) l) = decide (x ∈ l) := by
 by_cases h : x ∈ l
 ·have : l.findIdx (fun u => decide (x = u)) < l.length := List.findIdx_lt_length_of_exists ⟨x, h, by simp⟩;simp only [fidx, if_pos this, h]; simp
 ·have h2 : l.findIdx (fun u => decide (x = u)) = l.length := List.findIdx_eq_length.2 fun u hu => decide_eq_false fun e => h (e ▸ hu)
  have : ¬ l.findIdx (fun u => decide (x = u)) < l.length := by omega
  simp only [fidx, if_neg this, h]; simp
theorem zcq (l : List Int) (x : Int) (hl : l.length <= 4000000000) : Fn Tryz.prog 169 [ym l, iv x] (iv (fidx (fun u => decide (x = u)) l)) := by
 refine Fn.go Tryz.func169 Tryz.ntmps169 (fun g w d => ?_);apply yb;refine ye ?_;apply yd;apply yb;refine yo ?_;apply X.block
 refine zl (ι := Nat) (fun (k : Nat) => [(0, ym l), (1, iv x), (7, iv l.length), (8, iv (k : Int))]) (fun (k : Nat) => []) (fun (k : Nat) => k <= l.length /\ ∀ i u, i < k -> l[i]? = some u -> decide (x = u) = false) (fun (k : Nat) => l.length - k) 0 (fun k hk => ?_) (hJ := by
  exact ⟨by omega, fun i u h => absurd h (Nat.not_lt_zero i)⟩)
 obtain ⟨hk1, hk2⟩ := hk;apply yb;refine ye ?_;apply yd;refine yl rfl ?_ ?_<;>intro hc1
 ·obtain ⟨v, hv⟩ : ∃ v, l[k]? = some v := ⟨_, lgg (by omega)⟩;have hv2 : l[(k : Int).toNat]? = some v := by simpa using hv
  apply yf;apply yd;apply X.block;apply yb;iterate 2 refine ya ?_
  apply yi;iterate 5 refine ya ?_
  refine ye ?_;refine yl rfl ?_ ?_<;>intro hc2
  ·apply yb;refine yg ?_;refine X.ret ?_;refine yh ?_;all_goals (congr 1; exact (ziU hv (by simpa using hc2) hk2).symm)
  apply yf;apply yc;refine yg ?_
  refine yM (k + 1) (hJ := by
   refine ⟨by omega, fun i u hi hu => ?_⟩;rcases Nat.lt_succ_iff_lt_or_eq.1 hi with h | h
   ·exact hk2 i u h hu
   ·subst h; rw [hv] at hu; injection hu with hu; subst hu; simpa using hc2)
 ·apply X.exit;apply yb;refine ye ?_;refine X.ret ?_;refine yh ?_;all_goals (congr 1; exact (zhh (fun i u hi => hk2 i u (by omega))).symm)
theorem yO (l : List Int) (x : Int) (hl : l.length <= 4000000000) : Fn Tryz.prog 125 [ym l, iv x] (.bool (decide (x ∈ l))) := by
 refine Fn.go Tryz.func125 Tryz.ntmps125 (fun g w d => ?_);apply yb;refine ya ?_;apply yi;iterate 2 refine ya ?_
 refine yj (zcq l x hl) ?_;refine yg ?_;refine X.ret ?_;refine yh ?_;all_goals (congr 1; exact zlN x l)
theorem zgX (v : Int) (a : List Int) (b : List Bool) (ha : 1 <= a.length) (hb : 1 <= b.length) (ha2 : a.length <= 1000) (hb2 : b.length <= 1000) : FnO Tryz.prog 126 [iv v, .ptr 2000000 0 0 0, .ptr 2000001 0 0 0] [(2000000, .box [.own 2000002] 59), (2000001, .box [.own 2000003] 91), (2000002, .row intE a 3 1), (2000003, .row zf b 4 1)] [2000000, 2000001, 2000002, 2000003] (.tup []) [(2000000, .box [.own 2000002] 59), (2000001, .box [.own 2000003] 91), (2000002, .row intE (a.set ((a.length : Int) - 1).toNat v) 3 1), (2000003, .row zf (b.set ((b.length : Int) - 1).toNat (decide (v = 0))) 4 1)] := by
 refine FnO.intro (ts := [(0, iv v), (1, .ptr 2000000 0 0 0), (2, .ptr 2000001 0 0 0)]) (rv := []) (n := 17) (cs := [.ptr 2000000 0 0 0, .ptr 2000001 0 0 0, .own 2000002, .own 2000003]) (by kernel_rfl) Tryz.func126 rfl Tryz.ntmps126 rfl rfl (by simp) rfl rfl rfl rfl (fun g w d vs => ?_);refine X.drawP [⟨0, 4, .own 2000002, []⟩, ⟨1, 5, .own 2000002, []⟩, ⟨2, 6, iv a.length, [1]⟩, ⟨3, 7, iv ((a.length : Int) - 1), [1, 2]⟩, ⟨4, 8, .own 2000003, []⟩, ⟨5, 9, .own 2000003, []⟩, ⟨6, 10, iv b.length, [5]⟩, ⟨7, 11, iv ((b.length : Int) - 1), [5, 6]⟩, ⟨8, 12, iv v, []⟩, ⟨9, 13, iv v, []⟩, ⟨10, 14, .bool (decide (v = 0)), [9]⟩, ⟨11, 15, .ptr 2000002 1 ((a.length : Int) - 1).toNat 0, [8, 2, 1, 3, 0]⟩, ⟨13, 16, .ptr 2000003 1 ((b.length : Int) - 1).toNat 0, [12, 11, 10, 9, 8, 6, 5, 3, 2, 1, 0, 7, 4]⟩] [(12, [3, 2, 1, 0, 8, 11]), (14, [11, 9, 8, 7, 6, 5, 4, 3, 2, 1, 0, 12, 10, 13])] (fun j => ⟨[(0, iv v), (1, .ptr 2000000 0 0 0), (2, .ptr 2000001 0 0 0)], match j with | 0 => [(1000001, .hold vs [.ptr 2000000 0 0 0, .ptr 2000001 0 0 0, .own 2000002, .own 2000003]), (2000000, .box [.own 2000002] 59), (2000001, .box [.own 2000003] 91), (2000002, .row intE (a) 3 1), (2000003, .row zf (b) 4 1)] | 1 => [(1000001, .hold vs [.ptr 2000000 0 0 0, .ptr 2000001 0 0 0, .own 2000002, .own 2000003]), (2000000, .box [.own 2000002] 59), (2000001, .box [.own 2000003] 91), (2000002, .row intE (a.set ((a.length : Int) - 1).toNat v) 3 1), (2000003, .row zf (b) 4 1)] | _ => [(1000001, .hold vs [.ptr 2000000 0 0 0, .ptr 2000001 0 0 0, .own 2000002, .own 2000003]), (2000000, .box [.own 2000002] 59), (2000001, .box [.own 2000003] 91), (2000002, .row intE (a.set ((a.length : Int) - 1).toNat v) 3 1), (2000003, .row zf (b.set ((b.length : Int) - 1).toNat (decide (v = 0))) 4 1)]⟩) mo (by kernel_rfl) (zbx (yn)) (fun j hj => ?_) (fun j c hc β hβ => ?_) ?_
 ·rcases j with _ | _ | _ | j
  ·first
    | refine ⟨.inr ⟨_, rfl, rfl, rfl, rfl, yK rfl rfl rfl ty59⟩, ?_⟩
    | refine ⟨.inr ⟨_, rfl, rfl, rfl, rfl, zaF rfl rfl rfl ty59⟩, ?_⟩
    | refine ⟨.inr ⟨_, rfl, rfl, rfl, rfl, zaG rfl rfl (by assumption) rfl rfl ty59⟩, ?_⟩
   first
    | refine ⟨.inr ⟨_, rfl, rfl, rfl, rfl, yK rfl rfl rfl ty59⟩, ?_⟩
    | refine ⟨.inr ⟨_, rfl, rfl, rfl, rfl, zaF rfl rfl rfl ty59⟩, ?_⟩
    | refine ⟨.inr ⟨_, rfl, rfl, rfl, rfl, zaG rfl rfl (by assumption) rfl rfl ty59⟩, ?_⟩
   first
    | refine ⟨.inr ⟨_, rfl, rfl, rfl, rfl, zeC rfl sl59⟩, ?_⟩
    | refine ⟨.inr ⟨_, rfl, rfl, rfl, rfl, zdA rfl rfl sl59⟩, ?_⟩
    | refine ⟨.inr ⟨_, rfl, rfl, rfl, rfl, zcA rfl sl59⟩, ?_⟩
   refine ⟨.inr ⟨_, rfl, rfl, rfl, rfl, zkL rfl rfl (IntWalk.i64_in _ (by omega))⟩, ?_⟩
   first
    | refine ⟨.inr ⟨_, rfl, rfl, rfl, rfl, yK rfl rfl rfl ty91⟩, ?_⟩
    | refine ⟨.inr ⟨_, rfl, rfl, rfl, rfl, zaF rfl rfl rfl ty91⟩, ?_⟩
    | refine ⟨.inr ⟨_, rfl, rfl, rfl, rfl, zaG rfl rfl (by assumption) rfl rfl ty91⟩, ?_⟩
   first
    | refine ⟨.inr ⟨_, rfl, rfl, rfl, rfl, yK rfl rfl rfl ty91⟩, ?_⟩
    | refine ⟨.inr ⟨_, rfl, rfl, rfl, rfl, zaF rfl rfl rfl ty91⟩, ?_⟩
    | refine ⟨.inr ⟨_, rfl, rfl, rfl, rfl, zaG rfl rfl (by assumption) rfl rfl ty91⟩, ?_⟩
   first
    | refine ⟨.inr ⟨_, rfl, rfl, rfl, rfl, zeC rfl sl91⟩, ?_⟩
    | refine ⟨.inr ⟨_, rfl, rfl, rfl, rfl, zdA rfl rfl sl91⟩, ?_⟩
    | refine ⟨.inr ⟨_, rfl, rfl, rfl, rfl, zcA rfl sl91⟩, ?_⟩
   refine ⟨.inr ⟨_, rfl, rfl, rfl, rfl, zkL rfl rfl (IntWalk.i64_in _ (by omega))⟩, ?_⟩;(iterate 2 refine ⟨.inr ⟨_, rfl, rfl, rfl, rfl, zjO rfl⟩, ?_⟩);refine ⟨.inr ⟨_, rfl, rfl, rfl, rfl, zmC rfl rfl⟩, ?_⟩
   first
    | refine ⟨.inr ⟨_, rfl, rfl, rfl, rfl, zcB rfl rfl sl59 ty3 (fun _ => rfl) (by omega) (by assumption)⟩, ?_⟩
    | refine ⟨.inr ⟨_, rfl, rfl, rfl, rfl, zc9 rfl rfl rfl sl59 ty3 (by omega) (by omega)⟩, ?_⟩
   refine ⟨.inl rfl, ?_⟩;exact True.intro
  ·iterate 4 refine ⟨.inl rfl, ?_⟩
   first
    | refine ⟨.inr ⟨_, rfl, rfl, rfl, rfl, yK rfl rfl rfl ty91⟩, ?_⟩
    | refine ⟨.inr ⟨_, rfl, rfl, rfl, rfl, zaF rfl rfl rfl ty91⟩, ?_⟩
    | refine ⟨.inr ⟨_, rfl, rfl, rfl, rfl, zaG rfl rfl (by assumption) rfl rfl ty91⟩, ?_⟩
   first
    | refine ⟨.inr ⟨_, rfl, rfl, rfl, rfl, yK rfl rfl rfl ty91⟩, ?_⟩
    | refine ⟨.inr ⟨_, rfl, rfl, rfl, rfl, zaF rfl rfl rfl ty91⟩, ?_⟩
    | refine ⟨.inr ⟨_, rfl, rfl, rfl, rfl, zaG rfl rfl (by assumption) rfl rfl ty91⟩, ?_⟩
   first
    | refine ⟨.inr ⟨_, rfl, rfl, rfl, rfl, zeC rfl sl91⟩, ?_⟩
    | refine ⟨.inr ⟨_, rfl, rfl, rfl, rfl, zdA rfl rfl sl91⟩, ?_⟩
    | refine ⟨.inr ⟨_, rfl, rfl, rfl, rfl, zcA rfl sl91⟩, ?_⟩
   refine ⟨.inr ⟨_, rfl, rfl, rfl, rfl, zkL rfl rfl (IntWalk.i64_in _ (by omega))⟩, ?_⟩;refine ⟨.inl rfl, ?_⟩;refine ⟨.inr ⟨_, rfl, rfl, rfl, rfl, zjO rfl⟩, ?_⟩;refine ⟨.inr ⟨_, rfl, rfl, rfl, rfl, zmC rfl rfl⟩, ?_⟩;refine ⟨.inl rfl, ?_⟩
   first
    | refine ⟨.inr ⟨_, rfl, rfl, rfl, rfl, zcB rfl rfl sl91 ty4 (fun _ => rfl) (by omega) (by assumption)⟩, ?_⟩
    | refine ⟨.inr ⟨_, rfl, rfl, rfl, rfl, zc9 rfl rfl rfl sl91 ty4 (by omega) (by omega)⟩, ?_⟩
   exact True.intro
  ·(iterate 13 refine ⟨.inl rfl, ?_⟩);exact True.intro
  ·exact absurd (show j + 3 <= 2 from hj) (by omega)
 ·rcases j with _ | _ | j
  ·obtain rfl : (12, [3, 2, 1, 0, 8, 11]) = c := by injection hc
   refine yr rfl (yR (st0 := ⟨[(4, .own 2000002), (5, .own 2000002), (6, iv a.length), (7, iv ((a.length : Int) - 1)), (8, .ifb (β 4) (.own 2000003)), (9, .ifb (β 5) (.own 2000003)), (10, .ifb (β 6) (iv b.length)), (11, .ifb (β 7) (iv ((b.length : Int) - 1))), (12, iv v), (13, .ifb (β 9) (iv v)), (14, .ifb (β 10) (.bool (decide (v = 0)))), (15, .ptr 2000002 1 ((a.length : Int) - 1).toNat 0), (16, .ifb (β 13) (.ptr 2000003 1 ((b.length : Int) - 1).toNat 0)), (0, iv v), (1, .ptr 2000000 0 0 0), (2, .ptr 2000001 0 0 0)], [(1000001, .hold vs [.ptr 2000000 0 0 0, .ptr 2000001 0 0 0, .own 2000002, .own 2000003]), (2000000, .box [.own 2000002] 59), (2000001, .box [.own 2000003] 91), (2000002, .row intE (a) 3 1), (2000003, .row zf (b) 4 1)]⟩) (yP) ?_);refine yE.imp (zdk v rfl rfl (fun _ => rfl) (by decide) (by omega) rfl rfl rfl rfl rfl ty3) (yP)
  ·obtain rfl : (14, [11, 9, 8, 7, 6, 5, 4, 3, 2, 1, 0, 12, 10, 13]) = c := by injection hc
   refine yr rfl (yR (st0 := ⟨[(4, .own 2000002), (5, .own 2000002), (6, iv a.length), (7, iv ((a.length : Int) - 1)), (8, .own 2000003), (9, .own 2000003), (10, iv b.length), (11, iv ((b.length : Int) - 1)), (12, iv v), (13, iv v), (14, .bool (decide (v = 0))), (15, .ptr 2000002 1 ((a.length : Int) - 1).toNat 0), (16, .ptr 2000003 1 ((b.length : Int) - 1).toNat 0), (0, iv v), (1, .ptr 2000000 0 0 0), (2, .ptr 2000001 0 0 0)], [(1000001, .hold vs [.ptr 2000000 0 0 0, .ptr 2000001 0 0 0, .own 2000002, .own 2000003]), (2000000, .box [.own 2000002] 59), (2000001, .box [.own 2000003] 91), (2000002, .row intE (a.set ((a.length : Int) - 1).toNat v) 3 1), (2000003, .row zf (b) 4 1)]⟩) (yP) ?_);refine yE.imp (zdk (decide (v = 0)) rfl rfl (fun _ => rfl) (by decide) (by omega) rfl rfl rfl rfl rfl ty4) (yP)
  ·exact absurd hc (by simp)
 refine zkR.mk (ts := []) (.inl rfl) (yn) (.many (by decide) .nil)
end Go.Rse
