/-
  Walks.
-/
import Derived.Test.YtkpbljifckjeoaaGreatDoorYJSlice1
set_option linter.unusedSimpArgs false
set_option linter.unusedVariables false
namespace Go.Rse
open Go Go.Proofs
section
attribute [local irreducible] Pur yr yw Ex X Fn Imp LeV LeB FnO It yx
def zeQ (l : List Sg) (i : Int) : Int := match l[(i + 1).toNat]? with | some s => s.Value | none => 9
def zaz (m : Mn) (l : List Sg) (i : Int) (p : Sg) : Int :=
 if (mngs m p).length = 2 then (if zeQ l i <= p.Value then m.aV p.Value else if m.pV p.Value = 3 then p.Value else 0) else (mngs m p).headD 0
def zcP (m : Mn) (l : List Sg) (i : Int) : Int := match zg1 l i with | some p => zaz m l i p | none => 0
def z7 (m : Mn) (l : List Sg) : List Int := (y5 l l.length).map (zcP m l)
theorem zmA {m : Mn} {l : List Sg} {L : List Int} {k : Nat} {x : Int} {p : Sg} (h : L[k]? = some x) (hp : l[(x - 1).toNat]? = some p) : (L.take k).map (zcP m l) ++ [zaz m l x p] = (L.take (k + 1)).map (zcP m l) := by
 have e : zcP m l x = zaz m l x p := by unfold zcP zg1; rw [hp]
 rw [List.take_add_one, h];simp [e]
theorem zjD {m : Mn} {l : List Sg} (h : zab m l 0 l = 0) : ∀ k, k <= l.length -> ∀ x, x ∈ y5 l k -> ∀ p, l[(x - 1).toNat]? = some p -> (mngs m p).length ≠ 0
 | 0, _, x, hx => by simp [y5] at hx
 | k + 1, hk, x, hx => by
  simp only [y5, List.mem_append] at hx;rcases hx with hx | hx
  ·exact zjD h k (by omega) x hx
  ·have hs : l[k]? = some l[k] := lgg (by omega);simp only [hs] at hx;split at hx
   ·rename_i hK;have h0 := (zaI h (k + 1) hk).2 k _ (by omega) hs;simp at hx;intro p hp;cases k with
    | zero => unfold sgF at h0; rw [if_neg (by omega), if_pos hK] at h0; simp at h0
    | succ j =>
     rw [show (x - 1).toNat = j by omega] at hp;unfold sgF at h0;rw [if_neg (by omega), if_pos hK] at h0;simp only [hp] at h0;intro hz;rw [if_pos (.inr hz)] at h0;simp at h0
   ·simp at hx
theorem zm8 {m : Mn} {l : List Sg} {k : Nat} {x : Int} {p : Sg} (h : (y5 l l.length)[k]? = some x) (hp : l[(x - 1).toNat]? = some p) : (mnsD m l)[k]? = some (mngs m p) := by
 have e : mnAt m l x = mngs m p := by unfold mnAt zg1; rw [hp]
 rw [mnsD, List.getElem?_map, h];simp [e]
theorem ziI (l : List Sg) (hl : l.length <= 1000) (i : Int) (h0 : 0 <= i) (h1 : i <= 1000) : Fn Tryz.prog 122 [iv i, .ept (fun _ : Unit => [sgsA l]) () 0] (iv (zeQ l i)) := by
 refine Fn.go Tryz.func122 Tryz.ntmps122 (fun g w d => ?_);refine gd ?_ ?_<;>intro hc1
 ·obtain ⟨s, hs⟩ : ∃ s, l[(i + 1).toNat]? = some s := ⟨_, lgg (by omega)⟩;refine gq ?_;all_goals (congr 1; unfold zeQ; rw [hs])
 have hs : l[(i + 1).toNat]? = none := List.getElem?_eq_none (by omega);refine gq ?_;all_goals (congr 1; unfold zeQ; rw [hs])
theorem zkz (m : Mn) (l : List Sg) (hl : l.length <= 1000) : Fn Tryz.prog 91 [mnA m, sgsA l] (.tup [yf (if ckD m l = 0 then z7 m l else []), iv (ckD m l)]) := by
 refine Fn.go Tryz.func91 Tryz.ntmps91 (fun g w d => ?_);refine gq ?_;refine zbB ?_;refine gq ?_;refine yb (C_dot_Meanings m l hl) ?_;refine gd ?_ ?_<;>intro hc1
 ·apply yg;refine zh ?_;refine X.ret ?_;refine RetQ.imp (ye (ts := [(4, yf []), (5, iv (ckD m l))]) (hs := [])) ?_;refine yi ?_ ?_;all_goals (first | (simp [hc1]; done) | (rw [if_pos hc1, ← hfin]; rfl) | (rw [if_neg hc1]) | (rw [hc1]; rfl) | rfl)
 apply yp;apply yl;refine X.imp (yR (k := 3) rfl rfl) ?_;have hms : (if ckD m l = 0 then mnsD m l else []) = mnsD m l := if_pos hc1;rw [hms]
 have hcf : zab m l 0 l = 0 := by unfold ckD at hc1; split at hc1
                                  ·exact hc1
                                  ·exact absurd hc1 (by assumption)
 apply ym;iterate 2 refine ya ?_
 apply yI;refine yu ?_;iterate 2 apply yl
 refine X.imp (yL intE 3 1 9 9 rfl rfl) ?_;refine gq ?_;refine yb (zg0 l hl) ?_;refine zm ?_;apply X.block;have hdl := zcC l l.length;refine yS (ι := Nat) (fun (k : Nat) => [(2, .ptr 2 0 0 0), (3, .ept (fun _ : Unit => [sgsA l]) () 0), (5, iv 0), (6, zfN (mnsD m l)), (8, .fn 122 [.ept (fun _ : Unit => [sgsA l]) () 0]), (9, .own 9), (29, yf (y5 l l.length)), (30, iv (y5 l l.length).length), (31, iv (k : Int))]) (fun (k : Nat) => [(2, .box (mnE m) 32), (9, .row intE (((y5 l l.length).take k).map (zcP m l)) 3 1)]) (fun (k : Nat) => k <= (y5 l l.length).length) (fun (k : Nat) => (y5 l l.length).length - k) 0 (fun k hk => ?_);refine gd ?_ ?_<;>intro hc2
 ·obtain ⟨x, hx⟩ : ∃ x, (y5 l l.length)[k]? = some x := ⟨_, lgg (by omega)⟩;have hx2 : (y5 l l.length)[(k : Int).toNat]? = some x := by simpa using hx
  obtain ⟨j, s, p, hj1, hj2, hj3⟩ := zdW hcf l.length (Nat.le_refl _) x (List.mem_of_getElem? hx);have hjl : j + 1 < l.length := (List.getElem?_eq_some_iff.1 hj2).1;have hp : l[(x - 1).toNat]? = some p := by rw [show (x - 1).toNat = j by omega]; exact hj3
  have hne := zjD hcf l.length (Nat.le_refl _) x (List.mem_of_getElem? hx) p hp;have hmk : (mnsD m l)[(k : Int).toNat]? = some (mngs m p) := by simpa using zm8 (m := m) hx hp
  obtain ⟨c0, hc0⟩ : ∃ c0, (mngs m p)[(0 : Int).toNat]? = some c0 := ⟨_, lgg (by simp; omega)⟩
  have hhd : (mngs m p).headD 0 = c0 := by
   cases hq : mngs m p with
   | nil => simp [hq] at hne
   | cons a b => simp [hq] at hc0; simp [hc0]
  have hrow2 := zmA (m := m) hx hp;have htl : (((y5 l l.length).take k).map (zcP m l)).length <= 1000 := by simp; omega
  refine gd ?_ ?_<;>intro hc3
  ·refine gq ?_;refine yb (zcZ m p.Value) ?_;refine gq ?_;refine yb (zff m p.Value) ?_;refine gq ?_;refine yb (ziI l hl x (by omega) (by omega)) ?_;refine gd ?_ ?_<;>intro hc4
   ·have hch : zaz m l x p = m.aV p.Value := by unfold zaz; rw [if_pos (by omega), if_pos hc4]
    rw [hch] at hrow2;refine gq ?_;refine yJ intE [_] ?_;refine gq ?_;refine yz (k + 1)
   ·refine gd ?_ ?_<;>intro hc5
    ·have hc6 : m.pV p.Value = 3 := hc5;have hch : zaz m l x p = p.Value := by unfold zaz; rw [if_pos (by omega), if_neg (by omega), if_pos hc6]
     rw [hch] at hrow2;refine gq ?_;refine yJ intE [_] ?_;refine gq ?_;refine yz (k + 1)
    ·have hc6 : ¬ m.pV p.Value = 3 := hc5;have hch : zaz m l x p = 0 := by unfold zaz; rw [if_pos (by omega), if_neg (by omega), if_neg hc6]
     rw [hch] at hrow2;refine gq ?_;refine yJ intE [_] ?_;refine gq ?_;refine yz (k + 1)
  ·have hch : zaz m l x p = c0 := by unfold zaz; rw [if_neg (by omega), hhd]
   rw [hch] at hrow2;refine gq ?_;refine yJ intE [_] ?_;refine gq ?_;refine yz (k + 1)
 ·have hkl : k = (y5 l l.length).length := by omega
  subst hkl;have hfin : ((y5 l l.length).take (y5 l l.length).length).map (zcP m l) = z7 m l := by rw [List.take_length]; rfl
  apply X.exit;apply yg;refine zh ?_;refine X.ret ?_;refine RetQ.imp (Imp.freeze (k := 9) rfl) ?_;refine yi ?_ ?_;all_goals (first | (simp [hc1]; done) | (rw [if_pos hc1, ← hfin]; rfl) | (rw [if_neg hc1]) | (rw [hc1]; rfl) | rfl)
end
section
attribute [local irreducible] Pur yr yw Ex X Fn Imp LeV LeB FnO It yx
attribute [local irreducible] mnsD ckD
end
section
attribute [local irreducible] Pur yr yw Ex X Fn Imp LeV LeB FnO It yx
theorem zm9 (x : Int) (l : List Int) : decide (0 <= fidx (fun u => decide (x = u)) l) = decide (x ∈ l) := by
 by_cases h : x ∈ l
 ·have : l.findIdx (fun u => decide (x = u)) < l.length := List.findIdx_lt_length_of_exists ⟨x, h, by simp⟩;simp only [fidx, if_pos this, h]; simp
 ·have h2 : l.findIdx (fun u => decide (x = u)) = l.length := List.findIdx_eq_length.2 fun u hu => decide_eq_false fun e => h (e ▸ hu)
  have : ¬ l.findIdx (fun u => decide (x = u)) < l.length := by omega
  simp only [fidx, if_neg this, h]; simp
theorem zcQ (l : List Int) (x : Int) (hl : l.length <= 4000000000) : Fn Tryz.prog 169 [yf l, iv x] (iv (fidx (fun u => decide (x = u)) l)) := by
 refine Fn.go Tryz.func169 Tryz.ntmps169 (fun g w d => ?_);refine gq ?_
 refine yS (ι := Nat) (fun (k : Nat) => [(0, yf l), (1, iv x), (7, iv l.length), (8, iv (k : Int))]) (fun (k : Nat) => []) (fun (k : Nat) => k <= l.length /\ ∀ i u, i < k -> l[i]? = some u -> decide (x = u) = false) (fun (k : Nat) => l.length - k) 0 (fun k hk => ?_) (hJ := by
  exact ⟨by omega, fun i u h => absurd h (Nat.not_lt_zero i)⟩)
 obtain ⟨hk1, hk2⟩ := hk;refine gd ?_ ?_<;>intro hc1
 ·obtain ⟨v, hv⟩ : ∃ v, l[k]? = some v := ⟨_, lgg (by omega)⟩;have hv2 : l[(k : Int).toNat]? = some v := by simpa using hv
  refine gd ?_ ?_<;>intro hc2
  ·refine gq ?_;all_goals (congr 1; exact (zjY hv (by simpa using hc2) hk2).symm)
  refine gq ?_
  refine yz (k + 1) (hJ := by
   refine ⟨by omega, fun i u hi hu => ?_⟩;rcases Nat.lt_succ_iff_lt_or_eq.1 hi with h | h
   ·exact hk2 i u h hu
   ·subst h; rw [hv] at hu; injection hu with hu; subst hu; simpa using hc2)
 ·refine gq ?_;all_goals (congr 1; exact (zig (fun i u hi => hk2 i u (by omega))).symm)
theorem yK (l : List Int) (x : Int) (hl : l.length <= 4000000000) : Fn Tryz.prog 125 [yf l, iv x] (.bool (decide (x ∈ l))) := by
 refine Fn.go Tryz.func125 Tryz.ntmps125 (fun g w d => ?_);refine gq ?_;refine yb (zcQ l x hl) ?_;refine gq ?_;all_goals (congr 1; exact zm9 x l)
theorem zhP (v : Int) (a : List Int) (b : List Bool) (ha : 1 <= a.length) (hb : 1 <= b.length) (ha2 : a.length <= 1000) (hb2 : b.length <= 1000) : FnO Tryz.prog 126 [iv v, .ptr 2000000 0 0 0, .ptr 2000001 0 0 0] [(2000000, .box [.own 2000002] 59), (2000001, .box [.own 2000003] 91), (2000002, .row intE a 3 1), (2000003, .row y6 b 4 1)] [2000000, 2000001, 2000002, 2000003] (.tup []) [(2000000, .box [.own 2000002] 59), (2000001, .box [.own 2000003] 91), (2000002, .row intE (a.set ((a.length : Int) - 1).toNat v) 3 1), (2000003, .row y6 (b.set ((b.length : Int) - 1).toNat (decide (v = 0))) 4 1)] := by
 refine FnO.intro (ts := [(0, iv v), (1, .ptr 2000000 0 0 0), (2, .ptr 2000001 0 0 0)]) (rv := []) (n := 17) (cs := [.ptr 2000000 0 0 0, .ptr 2000001 0 0 0, .own 2000002, .own 2000003]) (by kernel_rfl) Tryz.func126 rfl Tryz.ntmps126 rfl rfl (by simp) rfl rfl rfl rfl (fun g w d vs => ?_);refine X.drawP [⟨0, 4, .own 2000002, []⟩, ⟨1, 5, .own 2000002, []⟩, ⟨2, 6, iv a.length, [1]⟩, ⟨3, 7, iv ((a.length : Int) - 1), [1, 2]⟩, ⟨4, 8, .own 2000003, []⟩, ⟨5, 9, .own 2000003, []⟩, ⟨6, 10, iv b.length, [5]⟩, ⟨7, 11, iv ((b.length : Int) - 1), [5, 6]⟩, ⟨8, 12, iv v, []⟩, ⟨9, 13, iv v, []⟩, ⟨10, 14, .bool (decide (v = 0)), [9]⟩, ⟨11, 15, .ptr 2000002 1 ((a.length : Int) - 1).toNat 0, [8, 2, 1, 3, 0]⟩, ⟨13, 16, .ptr 2000003 1 ((b.length : Int) - 1).toNat 0, [12, 11, 10, 9, 8, 6, 5, 3, 2, 1, 0, 7, 4]⟩] [(12, [3, 2, 1, 0, 8, 11]), (14, [11, 9, 8, 7, 6, 5, 4, 3, 2, 1, 0, 12, 10, 13])] (fun j => ⟨[(0, iv v), (1, .ptr 2000000 0 0 0), (2, .ptr 2000001 0 0 0)], match j with | 0 => [(1000001, .hold vs [.ptr 2000000 0 0 0, .ptr 2000001 0 0 0, .own 2000002, .own 2000003]), (2000000, .box [.own 2000002] 59), (2000001, .box [.own 2000003] 91), (2000002, .row intE (a) 3 1), (2000003, .row y6 (b) 4 1)] | 1 => [(1000001, .hold vs [.ptr 2000000 0 0 0, .ptr 2000001 0 0 0, .own 2000002, .own 2000003]), (2000000, .box [.own 2000002] 59), (2000001, .box [.own 2000003] 91), (2000002, .row intE (a.set ((a.length : Int) - 1).toNat v) 3 1), (2000003, .row y6 (b) 4 1)] | _ => [(1000001, .hold vs [.ptr 2000000 0 0 0, .ptr 2000001 0 0 0, .own 2000002, .own 2000003]), (2000000, .box [.own 2000002] 59), (2000001, .box [.own 2000003] 91), (2000002, .row intE (a.set ((a.length : Int) - 1).toNat v) 3 1), (2000003, .row y6 (b.set ((b.length : Int) - 1).toNat (decide (v = 0))) 4 1)]⟩) mo (by kernel_rfl) (zbb (ye)) (fun j hj => ?_) (fun j c hc β hβ => ?_) ?_
 ·rcases j with _ | _ | _ | j
  ·first
    | refine ⟨.inr ⟨_, rfl, rfl, rfl, rfl, yG rfl rfl rfl ty59⟩, ?_⟩
    | refine ⟨.inr ⟨_, rfl, rfl, rfl, rfl, zaJ rfl rfl rfl ty59⟩, ?_⟩
    | refine ⟨.inr ⟨_, rfl, rfl, rfl, rfl, zaK rfl rfl (by assumption) rfl rfl ty59⟩, ?_⟩
   first
    | refine ⟨.inr ⟨_, rfl, rfl, rfl, rfl, yG rfl rfl rfl ty59⟩, ?_⟩
    | refine ⟨.inr ⟨_, rfl, rfl, rfl, rfl, zaJ rfl rfl rfl ty59⟩, ?_⟩
    | refine ⟨.inr ⟨_, rfl, rfl, rfl, rfl, zaK rfl rfl (by assumption) rfl rfl ty59⟩, ?_⟩
   first
    | refine ⟨.inr ⟨_, rfl, rfl, rfl, rfl, zfp rfl sl59⟩, ?_⟩
    | refine ⟨.inr ⟨_, rfl, rfl, rfl, rfl, zd6 rfl rfl sl59⟩, ?_⟩
    | refine ⟨.inr ⟨_, rfl, rfl, rfl, rfl, zc1 rfl sl59⟩, ?_⟩
   refine ⟨.inr ⟨_, rfl, rfl, rfl, rfl, zmb rfl rfl (IntWalk.i64_in _ (by omega))⟩, ?_⟩
   first
    | refine ⟨.inr ⟨_, rfl, rfl, rfl, rfl, yG rfl rfl rfl ty91⟩, ?_⟩
    | refine ⟨.inr ⟨_, rfl, rfl, rfl, rfl, zaJ rfl rfl rfl ty91⟩, ?_⟩
    | refine ⟨.inr ⟨_, rfl, rfl, rfl, rfl, zaK rfl rfl (by assumption) rfl rfl ty91⟩, ?_⟩
   first
    | refine ⟨.inr ⟨_, rfl, rfl, rfl, rfl, yG rfl rfl rfl ty91⟩, ?_⟩
    | refine ⟨.inr ⟨_, rfl, rfl, rfl, rfl, zaJ rfl rfl rfl ty91⟩, ?_⟩
    | refine ⟨.inr ⟨_, rfl, rfl, rfl, rfl, zaK rfl rfl (by assumption) rfl rfl ty91⟩, ?_⟩
   first
    | refine ⟨.inr ⟨_, rfl, rfl, rfl, rfl, zfp rfl sl91⟩, ?_⟩
    | refine ⟨.inr ⟨_, rfl, rfl, rfl, rfl, zd6 rfl rfl sl91⟩, ?_⟩
    | refine ⟨.inr ⟨_, rfl, rfl, rfl, rfl, zc1 rfl sl91⟩, ?_⟩
   refine ⟨.inr ⟨_, rfl, rfl, rfl, rfl, zmb rfl rfl (IntWalk.i64_in _ (by omega))⟩, ?_⟩;(iterate 2 refine ⟨.inr ⟨_, rfl, rfl, rfl, rfl, zk5 rfl⟩, ?_⟩);refine ⟨.inr ⟨_, rfl, rfl, rfl, rfl, zov rfl rfl⟩, ?_⟩
   first
    | refine ⟨.inr ⟨_, rfl, rfl, rfl, rfl, zc2 rfl rfl sl59 ty3 (fun _ => rfl) (by omega) (by assumption)⟩, ?_⟩
    | refine ⟨.inr ⟨_, rfl, rfl, rfl, rfl, zdD rfl rfl rfl sl59 ty3 (by omega) (by omega)⟩, ?_⟩
   refine ⟨.inl rfl, ?_⟩;exact True.intro
  ·iterate 4 refine ⟨.inl rfl, ?_⟩
   first
    | refine ⟨.inr ⟨_, rfl, rfl, rfl, rfl, yG rfl rfl rfl ty91⟩, ?_⟩
    | refine ⟨.inr ⟨_, rfl, rfl, rfl, rfl, zaJ rfl rfl rfl ty91⟩, ?_⟩
    | refine ⟨.inr ⟨_, rfl, rfl, rfl, rfl, zaK rfl rfl (by assumption) rfl rfl ty91⟩, ?_⟩
   first
    | refine ⟨.inr ⟨_, rfl, rfl, rfl, rfl, yG rfl rfl rfl ty91⟩, ?_⟩
    | refine ⟨.inr ⟨_, rfl, rfl, rfl, rfl, zaJ rfl rfl rfl ty91⟩, ?_⟩
    | refine ⟨.inr ⟨_, rfl, rfl, rfl, rfl, zaK rfl rfl (by assumption) rfl rfl ty91⟩, ?_⟩
   first
    | refine ⟨.inr ⟨_, rfl, rfl, rfl, rfl, zfp rfl sl91⟩, ?_⟩
    | refine ⟨.inr ⟨_, rfl, rfl, rfl, rfl, zd6 rfl rfl sl91⟩, ?_⟩
    | refine ⟨.inr ⟨_, rfl, rfl, rfl, rfl, zc1 rfl sl91⟩, ?_⟩
   refine ⟨.inr ⟨_, rfl, rfl, rfl, rfl, zmb rfl rfl (IntWalk.i64_in _ (by omega))⟩, ?_⟩;refine ⟨.inl rfl, ?_⟩;refine ⟨.inr ⟨_, rfl, rfl, rfl, rfl, zk5 rfl⟩, ?_⟩;refine ⟨.inr ⟨_, rfl, rfl, rfl, rfl, zov rfl rfl⟩, ?_⟩;refine ⟨.inl rfl, ?_⟩
   first
    | refine ⟨.inr ⟨_, rfl, rfl, rfl, rfl, zc2 rfl rfl sl91 ty4 (fun _ => rfl) (by omega) (by assumption)⟩, ?_⟩
    | refine ⟨.inr ⟨_, rfl, rfl, rfl, rfl, zdD rfl rfl rfl sl91 ty4 (by omega) (by omega)⟩, ?_⟩
   exact True.intro
  ·(iterate 13 refine ⟨.inl rfl, ?_⟩);exact True.intro
  ·exact absurd (show j + 3 <= 2 from hj) (by omega)
 ·rcases j with _ | _ | j
  ·obtain rfl : (12, [3, 2, 1, 0, 8, 11]) = c := by injection hc
   refine yh rfl (yD (st0 := ⟨[(4, .own 2000002), (5, .own 2000002), (6, iv a.length), (7, iv ((a.length : Int) - 1)), (8, .ifb (β 4) (.own 2000003)), (9, .ifb (β 5) (.own 2000003)), (10, .ifb (β 6) (iv b.length)), (11, .ifb (β 7) (iv ((b.length : Int) - 1))), (12, iv v), (13, .ifb (β 9) (iv v)), (14, .ifb (β 10) (.bool (decide (v = 0)))), (15, .ptr 2000002 1 ((a.length : Int) - 1).toNat 0), (16, .ifb (β 13) (.ptr 2000003 1 ((b.length : Int) - 1).toNat 0)), (0, iv v), (1, .ptr 2000000 0 0 0), (2, .ptr 2000001 0 0 0)], [(1000001, .hold vs [.ptr 2000000 0 0 0, .ptr 2000001 0 0 0, .own 2000002, .own 2000003]), (2000000, .box [.own 2000002] 59), (2000001, .box [.own 2000003] 91), (2000002, .row intE (a) 3 1), (2000003, .row y6 (b) 4 1)]⟩) (yy) ?_);refine yw.imp (zdN v rfl rfl (fun _ => rfl) (by decide) (by omega) rfl rfl rfl rfl rfl ty3) (yy)
  ·obtain rfl : (14, [11, 9, 8, 7, 6, 5, 4, 3, 2, 1, 0, 12, 10, 13]) = c := by injection hc
   refine yh rfl (yD (st0 := ⟨[(4, .own 2000002), (5, .own 2000002), (6, iv a.length), (7, iv ((a.length : Int) - 1)), (8, .own 2000003), (9, .own 2000003), (10, iv b.length), (11, iv ((b.length : Int) - 1)), (12, iv v), (13, iv v), (14, .bool (decide (v = 0))), (15, .ptr 2000002 1 ((a.length : Int) - 1).toNat 0), (16, .ptr 2000003 1 ((b.length : Int) - 1).toNat 0), (0, iv v), (1, .ptr 2000000 0 0 0), (2, .ptr 2000001 0 0 0)], [(1000001, .hold vs [.ptr 2000000 0 0 0, .ptr 2000001 0 0 0, .own 2000002, .own 2000003]), (2000000, .box [.own 2000002] 59), (2000001, .box [.own 2000003] 91), (2000002, .row intE (a.set ((a.length : Int) - 1).toNat v) 3 1), (2000003, .row y6 (b) 4 1)]⟩) (yy) ?_);refine yw.imp (zdN (decide (v = 0)) rfl rfl (fun _ => rfl) (by decide) (by omega) rfl rfl rfl rfl rfl ty4) (yy)
  ·exact absurd hc (by simp)
 refine zmh.mk (ts := []) (.inl rfl) (ye) (.many (by decide) .nil)
end
end Go.Rse
