/-
  Walks: the meanings of all dots.
-/
import Derived.Test.YtbilklnipfabpaaGreatDoorPJMens2
import Derived.Test.YtbilklnipfabpaaGreatDoorPLogB
set_option linter.unusedSimpArgs false
set_option linter.unusedVariables false
namespace Go.Rse
open Go Go.Proofs
attribute [local irreducible] Pur yx yz Ex X Fn Imp LeV LeB FnO It yC
theorem zan {m : Mn} {l : List Sg} (h : zK m l 0 l = 0) : ∀ k, k <= l.length -> zK m l k (l.drop k) = 0 /\ ∀ i s, i < k -> l[i]? = some s -> sgF m l i s = 0
 | 0, _ => ⟨h, fun i s hi => absurd hi (Nat.not_lt_zero i)⟩
 | k + 1, hk => by
  obtain ⟨h1, h2⟩ := zan h k (by omega);have hs : l[k]? = some l[k] := lgg (by omega)
  have h0 : sgF m l k l[k] = 0 := by
   by_cases h0 : sgF m l k l[k] = 0
   ·exact h0
   ·rw [zaQ hs h0] at h1; exact h1
  refine ⟨by rw [← zb3 hs h0]; exact h1, fun i s hi he => ?_⟩;rcases Nat.lt_succ_iff_lt_or_eq.1 hi with h3 | h3
  ·exact h2 i s h3 he
  ·subst h3; rw [hs] at he; injection he with he; subst he; exact h0
theorem zdb {m : Mn} {l : List Sg} (h : zK m l 0 l = 0) : ∀ k, k <= l.length -> ∀ x, x ∈ yT l k -> ∃ (j : Nat) (s p : Sg), x = ((j + 1 : Nat) : Int) /\ l[j + 1]? = some s /\ l[j]? = some p
 | 0, _, x, hx => by simp [yT] at hx
 | k + 1, hk, x, hx => by
  simp only [yT, List.mem_append] at hx;rcases hx with hx | hx
  ·exact zdb h k (by omega) x hx
  ·have hs : l[k]? = some l[k] := lgg (by omega);simp only [hs] at hx;split at hx
   ·rename_i hK;have h0 := (zan h (k + 1) hk).2 k _ (by omega) hs;simp at hx;cases k with
    | zero => unfold sgF at h0; rw [if_neg (by omega), if_pos hK] at h0; simp at h0
    | succ j => exact ⟨j, _, _, hx, hs, lgg (by omega)⟩
   ·simp at hx
def zfV (l : List Sg) (i : Int) : Option Sg := l[(i - 1).toNat]?
def mnAt (m : Mn) (l : List Sg) (i : Int) : List Int := match zfV l i with | some p => mngs m p | none => []
def mnsD (m : Mn) (l : List Sg) : List (List Int) := (yT l l.length).map (mnAt m l)
theorem zlj {m : Mn} {l : List Sg} {L : List Int} {k : Nat} {x : Int} {p : Sg} (h : L[k]? = some x) (hp : l[(x - 1).toNat]? = some p) : (L.take k).map (mnAt m l) ++ [mngs m p] = (L.take (k + 1)).map (mnAt m l) := by
 have e : mnAt m l x = mngs m p := by unfold mnAt zfV; rw [hp]
 rw [List.take_add_one, h];simp [e]
theorem C_dot_Meanings (m : Mn) (l : List Sg) (hl : l.length <= 1000) : Fn Tryz.prog 126 [mnA m, sgsA l] (.tup [zdT (if ckD m l = 0 then mnsD m l else []), iv (ckD m l)]) := by
 refine Fn.go Tryz.func126 Tryz.ntmps126 (fun g w d => ?_);apply yb;refine yF ?_;refine yh ?_;apply yd;apply yb;iterate 2 refine ya ?_
 refine yq (za2 m l hl) ?_;refine ya ?_;apply yj;refine yh ?_;refine yk rfl ?_ ?_<;>intro hc1
 ·apply yb;refine yn ?_;refine X.ret ?_;refine RetQ.imp (yi (ts := [(4, zdT []), (5, iv (ckD m l))]) (hs := [])) ?_;refine yu ?_ ?_;all_goals (first | (simp [hc1]; done) | (rw [if_pos hc1, ← hfin]; rfl) | (rw [if_neg hc1]) | (rw [hc1]; rfl) | rfl)
 apply yf;apply yb;refine ye ?_;iterate 2 apply yd
 refine X.imp (y5 zfb 22 1 7 7 rfl rfl) ?_
 have hcf : zK m l 0 l = 0 := by unfold ckD at hc1; split at hc1
                                 ·exact hc1
                                 ·exact absurd hc1 (by assumption)
 apply yc;refine ya ?_;refine yq (zjL l hl) ?_;refine yh ?_;apply X.block;have hdl := zb2 l l.length;refine zh (ι := Nat) (fun (k : Nat) => [(1, sgsA l), (2, .ptr 2 0 0 0), (7, .own 7), (17, yg (yT l l.length)), (18, iv (yT l l.length).length), (19, iv (k : Int)), (5, iv 0)]) (fun (k : Nat) => [(2, .box (mnE m) 24), (7, .row zfb (((yT l l.length).take k).map (mnAt m l)) 22 1)]) (fun (k : Nat) => k <= (yT l l.length).length) (fun (k : Nat) => (yT l l.length).length - k) 0 (fun k hk => ?_);apply yb;refine ye ?_;apply yd;refine yk rfl ?_ ?_<;>intro hc2
 ·obtain ⟨x, hx⟩ : ∃ x, (yT l l.length)[k]? = some x := ⟨_, lgg (by omega)⟩;have hx2 : (yT l l.length)[(k : Int).toNat]? = some x := by simpa using hx
  obtain ⟨j, s, p, hj1, hj2, hj3⟩ := zdb hcf l.length (Nat.le_refl _) x (List.mem_of_getElem? hx);have hjl : j + 1 < l.length := (List.getElem?_eq_some_iff.1 hj2).1;have hp : l[(x - 1).toNat]? = some p := by rw [show (x - 1).toNat = j by omega]; exact hj3
  have hrow2 := zlj (m := m) hx hp;have htl : (((yT l l.length).take k).map (mnAt m l)).length <= 1000 := by simp; omega
  apply yf;apply yd;apply X.block;apply yb;refine yn ?_;refine zy [23,24,25,26,27,28,29,30,31] [0,0,0,0,8,28,60,126,254,511,1023] mo ?_;iterate 7 refine yl ?_
  refine zz (zcN m _) ?_;refine ChM.step rfl rfl rfl (yE (k := 31) (enc := zfb) (l := [_]) zqa ty22 ze22 (by decide) rfl rfl rfl rfl (by decide) (by decide) (fun _ => rfl) rfl) rfl ?_;refine y7 ?_;refine Ex.mo ?_;refine ye ?_;apply yc;refine yh ?_;refine yP (k + 1)
 ·have hkl : k = (yT l l.length).length := by omega
  subst hkl;have hfin : ((yT l l.length).take (yT l l.length).length).map (mnAt m l) = mnsD m l := by rw [List.take_length]; rfl
  apply X.exit;apply yb;refine yn ?_;refine X.ret ?_;refine RetQ.imp (Imp.freeze (k := 7) rfl) ?_;refine yu ?_ ?_;all_goals (first | (simp [hc1]; done) | (rw [if_pos hc1, ← hfin]; rfl) | (rw [if_neg hc1]) | (rw [hc1]; rfl) | rfl)
end Go.Rse
namespace Go.Rse
open Go Go.Proofs
attribute [local irreducible] Pur yx yz Ex X Fn Imp LeV LeB FnO It yC
def cntF : Int -> List (List Int) -> Int
 | n, [] => n
 | n, x :: r => if n * x.length > 64 then n * x.length else cntF (n * x.length) r
theorem zl8 (m : Mn) (s : Sg) : (mngs m s).length <= 2 := by
 unfold mngs;split
 ·exact Nat.le_trans (zej _ _) (by simp)
 ·split
  ·simp
  ·split
   ·exact zej _ _
   ·have := zej posI [m.aV s.Value]; simp at this ⊢; omega
theorem zeE {m : Mn} {l : List Sg} {x : List Int} (h : x ∈ mnsD m l) : x.length <= 2 := by
 obtain ⟨i, _, rfl⟩ := List.mem_map.1 h;unfold mnAt;split
 ·exact zl8 _ _
 ·simp
theorem zfW (m : Mn) (l : List Sg) : (mnsD m l).length <= l.length := by simpa [mnsD] using zb2 l l.length
theorem zg1 {L : List (List Int)} {k : Nat} {x : List Int} {n : Int} (h : L[k]? = some x) : cntF n (L.drop k) = if n * x.length > 64 then n * x.length else cntF (n * x.length) (L.drop (k + 1)) := by
 have hk : k < L.length := (List.getElem?_eq_some_iff.1 h).1;rw [List.drop_eq_getElem_cons hk];have : L[k] = x := (List.getElem?_eq_some_iff.1 h).2;rw [this]; rfl
def cntV (m : Mn) (l : List Sg) : Int := if ckD m l = 0 then (if cntF 1 (mnsD m l) > 64 then 0 else cntF 1 (mnsD m l)) else 0
def cntE (m : Mn) (l : List Sg) : Int := if ckD m l = 0 then (if cntF 1 (mnsD m l) > 64 then 15 else 0) else ckD m l
theorem zeX (m : Mn) (l : List Sg) (hl : l.length <= 1000) : Fn Tryz.prog 157 [mnA m, sgsA l] (.tup [iv (cntV m l), iv (cntE m l)]) := by
 refine Fn.go Tryz.func157 Tryz.ntmps157 (fun g w d => ?_);apply yb;refine yF ?_;refine yh ?_;refine X.scope ?_;apply yb;iterate 2 refine ya ?_
 refine yq (C_dot_Meanings m l hl) ?_;refine ze ?_;apply yd;apply yb;refine yh ?_;refine yk rfl ?_ ?_<;>intro hc1
 ·apply yb;refine yn ?_;refine X.ret ?_;refine yu ?_ ?_;all_goals (first | (unfold cntV; rw [if_neg hc1]; done) | (unfold cntE; rw [if_neg hc1]; done))
 apply yf;apply yb;refine ye ?_;apply yd;refine X.label ?_;iterate 2 apply yd
 have hms : (if ckD m l = 0 then mnsD m l else []) = mnsD m l := if_pos hc1;have hml := zfW m l;rw [hms];apply yc;refine yn ?_;apply X.block
 refine zh (ι := Nat × Int) (fun (p : Nat × Int) => [(8, iv p.2), (20, zdT (mnsD m l)), (21, iv (mnsD m l).length), (22, iv (p.1 : Int))]) (fun (p : Nat × Int) => []) (fun (p : Nat × Int) => p.1 <= (mnsD m l).length /\ 0 <= p.2 /\ p.2 <= 64 /\ cntF 1 (mnsD m l) = cntF p.2 ((mnsD m l).drop p.1)) (fun (p : Nat × Int) => (mnsD m l).length - p.1) (0, 1) (fun p hk => ?_) (hJ := by
  exact ⟨by simp, by simp, by simp, rfl⟩)
 obtain ⟨k, n⟩ := p;obtain ⟨hk1, hn0, hn1, hk2⟩ := hk;dsimp only at *
 apply yb;refine ye ?_;apply yd;refine yk rfl ?_ ?_<;>intro hc2
 ·obtain ⟨x, hx⟩ : ∃ x, (mnsD m l)[k]? = some x := ⟨_, lgg (by omega)⟩;have hx2 : (mnsD m l)[(k : Int).toNat]? = some x := by simpa using hx
  have hxl := zeE (List.mem_of_getElem? hx);have hb0 : 0 <= n * (x.length : Int) := Int.mul_nonneg hn0 (by omega);have hb1 : n * (x.length : Int) <= 64 * 2 := Int.mul_le_mul hn1 (by omega) (by omega) (by omega);apply yf;apply yd;apply X.block;apply yb;iterate 3 refine ya ?_
  apply yj;iterate 5 refine ya ?_
  apply yj;refine yh ?_;refine yk rfl ?_ ?_<;>intro hc3
  ·have hC : cntF 1 (mnsD m l) = n * (x.length : Int) := by rw [hk2, zg1 hx, if_pos (by omega)]
   apply X.exit;apply yd;apply yb;refine yh ?_;refine yk rfl ?_ ?_<;>intro hc4
   ·apply yb;refine yh ?_;refine X.ret ?_;refine yu ?_ ?_;all_goals (first | (unfold cntV; rw [if_pos hc1, hC, if_pos (by omega)]; done) | (unfold cntE; rw [if_pos hc1, hC, if_pos (by omega)]; done))
   omega
  apply yf;apply yc;refine yh ?_
  refine yP ((k + 1, n * (x.length : Int))) (hJ := by
   exact ⟨by omega, by omega, by omega, by rw [hk2, zg1 hx, if_neg (by omega)]⟩) (hm := by dsimp only; omega)
 ·have hC : cntF 1 (mnsD m l) = n := by rw [hk2, List.drop_of_length_le (by omega)]; rfl
  apply X.exit;apply yd;apply yb;refine yh ?_;refine yk rfl ?_ ?_<;>intro hc5
  ·apply yb;refine yh ?_;refine X.ret ?_;refine yu ?_ ?_;all_goals (first | (unfold cntV; rw [if_pos hc1, hC, if_pos (by omega)]; done) | (unfold cntE; rw [if_pos hc1, hC, if_pos (by omega)]; done))
  apply yf;apply yb;refine yn ?_;refine X.ret ?_;refine yu ?_ ?_;all_goals (first | (unfold cntV; rw [if_pos hc1, hC, if_neg (by omega)]; done) | (unfold cntE; rw [if_pos hc1, hC, if_neg (by omega)]; done))
end Go.Rse
namespace Go.Rse
open Go Go.Proofs
attribute [local irreducible] Pur yx yz Ex X Fn Imp LeV LeB FnO It yC
def zg2 (l : List Sg) (i : Int) : Int := match l[(i + 1).toNat]? with | some s => s.Value | none => 9
def zfX (m : Mn) (l : List Sg) (i : Int) (p : Sg) : Int :=
 if (mngs m p).length = 2 then (if zg2 l i <= p.Value then m.aV p.Value else if m.pV p.Value = 3 then p.Value else 0) else (mngs m p).headD 0
def zl9 (m : Mn) (l : List Sg) (i : Int) : Int := match zfV l i with | some p => zfX m l i p | none => 0
def zd3 (m : Mn) (l : List Sg) : List Int := (yT l l.length).map (zl9 m l)
theorem ziC {m : Mn} {l : List Sg} (h : zK m l 0 l = 0) : ∀ k, k <= l.length -> ∀ x, x ∈ yT l k -> ∀ p, l[(x - 1).toNat]? = some p -> (mngs m p).length ≠ 0
 | 0, _, x, hx => by simp [yT] at hx
 | k + 1, hk, x, hx => by
  simp only [yT, List.mem_append] at hx;rcases hx with hx | hx
  ·exact ziC h k (by omega) x hx
  ·have hs : l[k]? = some l[k] := lgg (by omega);simp only [hs] at hx;split at hx
   ·rename_i hK;have h0 := (zan h (k + 1) hk).2 k _ (by omega) hs;simp at hx;intro p hp;cases k with
    | zero => unfold sgF at h0; rw [if_neg (by omega), if_pos hK] at h0; simp at h0
    | succ j =>
     rw [show (x - 1).toNat = j by omega] at hp;unfold sgF at h0;rw [if_neg (by omega), if_pos hK] at h0;simp only [hp] at h0;intro hz;rw [if_pos (.inr hz)] at h0;simp at h0
   ·simp at hx
end Go.Rse
namespace Go.Rse
open Go Go.Proofs
attribute [local irreducible] Pur yx yz Ex X Fn Imp LeV LeB FnO It yC
theorem zqD : ∀ (I : Im) (j : Nat) c, (intE 0)[j]? = some c -> RV I noNames c (.int .i64 0) := fun I j c h => by
 cases j with
 | zero => simp [intE] at h; subst h; exact .int _ _
 | succ j => simp [intE] at h
def zfY (l : List (List Int)) : List (List AV) := (List.range l.length).map fun (j : Nat) => [iv ((l.length : Int) - 1 - (j : Int)), yg (l.getD (l.length - 1 - j) [])]
theorem zg3 {l : List (List Int)} {k : Nat} (h : k < l.length) : (zfY l)[k]? = some [iv ((l.length : Int) - 1 - k), yg (l.getD (l.length - 1 - k) [])] := by
 simp [zfY, h]
theorem zeF {l : List (List Int)} {j : Nat} {zs : List AV} (h : (zfY l)[j]? = some zs) : j < l.length /\ zs = [iv ((l.length : Int) - 1 - j), yg (l.getD (l.length - 1 - j) [])] := by
 have hlt : j < l.length := by have := (List.getElem?_eq_some_iff.1 h).1; simpa [zfY] using this
 rw [zg3 hlt] at h;exact ⟨hlt, by simpa using h.symm⟩
theorem zg4 (l : List (List Int)) : (zfY l).length = l.length := by simp [zfY]
def ofN (L : List (List Int)) (n : Int) : Nat -> Int
 | 0 => n
 | j + 1 => ofN L n j / ((L.getD (L.length - 1 - j) []).length : Int)
def ofV (L : List (List Int)) (n : Int) (j : Nat) : Int := (L.getD (L.length - 1 - j) []).getD (ofN L n j % ((L.getD (L.length - 1 - j) []).length : Int)).toNat 0
def zax (L : List (List Int)) (n : Int) : Nat -> List Int
 | 0 => []
 | j + 1 => ofV L n j :: zax L n j
theorem zg5 (L : List (List Int)) (n : Int) : ∀ j, (zax L n j).length = j
 | 0 => rfl
 | j + 1 => by simp [zax, zg5 L n j]
theorem zki {L : List (List Int)} {n : Int} (h0 : 0 <= n) (h1 : n <= 64) (hL : ∀ x ∈ L, 1 <= x.length) : ∀ j, j <= L.length -> 0 <= ofN L n j /\ ofN L n j <= 64
 | 0, _ => ⟨h0, h1⟩
 | j + 1, hj => by
  obtain ⟨a, b⟩ := zki h0 h1 hL j (by omega)
  have hx : 1 <= (L.getD (L.length - 1 - j) []).length := by
   rw [List.getD_eq_getElem?_getD, lgg (by omega)];exact hL _ (List.getElem_mem _)
  simp only [ofN];generalize (L.getD (L.length - 1 - j) []).length = q at hx ⊢;refine ⟨Int.ediv_nonneg a (by omega), Int.le_trans (Int.ediv_le_self _ a) b⟩
def ofD (L : List (List Int)) (n : Int) : List Int := zax L n L.length
theorem zqE {L : List (List Int)} {n : Int} {j : Nat} (hj : j < L.length) : (List.replicate (L.length - j) 0 ++ zax L n j).set ((L.length : Int) - 1 - j).toNat (ofV L n j) = List.replicate (L.length - (j + 1)) 0 ++ zax L n (j + 1) := by
 have e : ((L.length : Int) - 1 - j).toNat = L.length - (j + 1) := by omega
 rw [e, show L.length - j = (L.length - (j + 1)) + 1 by omega, List.replicate_succ', List.append_assoc, List.set_append_right _ _ (by simp)];simp [zax]
def ofE (m : Mn) (l : List Sg) (n : Int) : Int := if cntE m l = 0 then (if n < 0 \/ cntV m l <= n then 2 else 0) else cntE m l
def ofL (m : Mn) (l : List Sg) (n : Int) : List Int := if ofE m l n = 0 then ofD (mnsD m l) n else []
theorem zkj {m : Mn} {l : List Sg} (h : cntE m l = 0) : ckD m l = 0 := by
 unfold cntE at h;split at h
 ·assumption
 ·exact h
theorem zfZ : ∀ {L : List (List Int)} {n : Int}, (∀ x ∈ L, 1 <= x.length) -> 1 <= n -> n <= 64 -> 1 <= cntF n L
 | [], n, _, h, _ => h
 | x :: r, n, hL, h, h64 => by
  have hx := hL x (by simp)
  have hp : 1 <= n * (x.length : Int) := by
   have : (1 : Int) * 1 <= n * (x.length : Int) := Int.mul_le_mul h (by omega) (by omega) (by omega);simpa using this
  unfold cntF;split
  ·omega
  ·exact zfZ (fun y hy => hL y (by simp [hy])) hp (by omega)
theorem zhJ {m : Mn} {l : List Sg} : cntV m l <= 64 := by
 unfold cntV; split
 ·split <;> omega
 ·omega
theorem zf0 {m : Mn} {l : List Sg} (h : ckD m l = 0) {x : List Int} (hx : x ∈ mnsD m l) : 1 <= x.length := by
 obtain ⟨i, hi, rfl⟩ := List.mem_map.1 hx
 have hF : zK m l 0 l = 0 := by unfold ckD at h; split at h
                                ·exact h
                                ·exact absurd h (by assumption)
 obtain ⟨j, s, p, h1, h2, h3⟩ := zdb hF l.length (Nat.le_refl _) i hi;have hp : l[(i - 1).toNat]? = some p := by rw [show (i - 1).toNat = j by omega]; exact h3
 have := ziC hF l.length (Nat.le_refl _) i hi p hp;unfold mnAt zfV;rw [hp]; show 1 <= (mngs m p).length; omega
theorem za5 (l : List (List Int)) (hl : l.length <= 4000000000) : It Tryz.prog 189 [.ept (fun _ : Unit => [.sl zfb l]) () 0] (zfY l) := by
 refine It.intro (ts := fun lY => [(0, .yv lY), (1, .ept (fun _ : Unit => [.sl zfb l]) () 0)]) (n := 19) (by kernel_rfl) Tryz.func189 rfl Tryz.ntmps189 rfl (fun _ => rfl) (by simp) (fun g w d ds Y lY hY => ?_);apply yb;refine zT ?_;apply X.block;refine zh (ι := Nat) (fun (k : Nat) => [(0, .yv lY), (1, .ept (fun _ : Unit => [.sl zfb l]) () 0), (3, iv ((l.length : Int) - 1 - k))]) (fun (k : Nat) => [(1000000, .yld k true)]) (fun (k : Nat) => k <= l.length) (fun (k : Nat) => l.length - k) 0 (fun k hk => ?_);apply yd;apply yb;refine yh ?_;refine yk rfl ?_ ?_<;>intro hc1
 ·have hlt : k < l.length := by omega
  have hu : l[((l.length : Int) - 1 - k).toNat]? = some (l.getD (l.length - 1 - k) []) := by
   rw [show ((l.length : Int) - 1 - k).toNat = l.length - 1 - k by omega, List.getD_eq_getElem?_getD, lgg (by omega)]; rfl
  apply yf;apply yd;apply X.block;apply yb;iterate 6 refine ya ?_
  refine Ex.yield hY rfl rfl rfl (LeL.refl _) rfl rfl (zg3 hlt) rfl (fun b => ?_);refine ye ?_;refine yk rfl ?_ ?_<;>intro hc2
  ·refine X.ret ?_;refine ⟨.inr rfl, _, b, rfl, fun hb => by simp_all⟩
  subst hc2;apply yf;apply yc;refine yn ?_;refine ⟨k + 1, yi, ?_, ?_⟩
  ·omega
  ·omega
 ·apply X.exit;refine ⟨.inl rfl, k, true, rfl, fun _ => by rw [zg4]; omega⟩
theorem zbn (l : List (List Int)) : Fn Tryz.prog 159 [zdT l] (.fn 189 [.ept (fun _ : Unit => [.sl zfb l]) () 0]) := by
 refine Fn.go Tryz.func159 Tryz.ntmps159 (fun g w d => ?_);apply yb;refine zcu ?_;refine ya ?_;apply yj;refine yh ?_;refine X.ret ?_;refine RetQ.imp (yU (k := 1) rfl rfl) ?_;refine ym ?_;all_goals (first | rfl | (simp_all; done))
theorem zn4 (L : List (List Int)) (n : Int) : List.replicate L.length 0 = List.replicate (L.length - 0) 0 ++ zax L n 0 := by simp [zax]
theorem zn5 (L : List (List Int)) (n : Int) : List.replicate (L.length - L.length) 0 ++ zax L n L.length = ofD L n := by simp [ofD]
attribute [local irreducible] mnsD zax ofV ofL ofE ofD cntE cntV ckD
set_option maxHeartbeats 1000000 in
theorem zma (m : Mn) (z : List Sg) (hl : z.length <= 1000) (n : Int) : Fn Tryz.prog 110 [mnA m, sgsA z, iv n] (.tup [yg (ofL m z n), iv (ofE m z n)]) := by
 refine Fn.go Tryz.func110 Tryz.ntmps110 (fun g w d => ?_);apply yb;refine yF ?_;refine zcu ?_;iterate 2 refine ya ?_
 apply yj;iterate 2 refine ya ?_
 refine yq (zeX m z hl) ?_;refine ze ?_;apply yd;apply yb;refine yh ?_;refine yk rfl ?_ ?_<;>intro hc1
 ·have hE : ofE m z n = cntE m z := by unfold ofE; rw [if_neg hc1]
  have hL : ofL m z n = [] := by unfold ofL; rw [if_neg (by rw [hE]; exact hc1)]
  apply yb;refine yn ?_;refine X.ret ?_;refine RetQ.imp (yi (ts := [(6, yg []), (7, iv (cntE m z))]) (hs := [])) ?_;refine yu ?_ ?_;all_goals (first | (simp [*]; done) | (rw [hE]; rfl) | (rw [hL, ← hrowN]; simp only [hbl]; rfl))
 have hck := zkj hc1;have hM := C_dot_Meanings m z hl;rw [if_pos hck] at hM;have hml := zfW m z;have hmp : ∀ x ∈ mnsD m z, 1 <= x.length := fun x hx => zf0 hck hx
 have hcv := zhJ (m := m) (l := z);apply yf;apply yd;apply yb;iterate 2 refine ya ?_
 refine ExF.at 2 ?_;refine yI ?_;iterate 3 refine ExF.gi ?_
 refine yA ?_;refine ye ?_;refine yk rfl ?_ ?_<;>intro hc2
 ·have hE : ofE m z n = 2 := by unfold ofE; rw [if_pos hc1, if_pos (by omega)]
  have hL : ofL m z n = [] := by unfold ofL; rw [if_neg (by omega)]
  apply yb;refine yh ?_;refine X.ret ?_;refine RetQ.imp (yi (ts := [(6, yg []), (7, iv 2)]) (hs := [])) ?_;refine yu ?_ ?_;all_goals (first | (simp [*]; done) | (rw [hE]; rfl) | (rw [hL, ← hrowN]; simp only [hbl]; rfl))
 have hE : ofE m z n = 0 := by unfold ofE; rw [if_pos hc1, if_neg (by omega)]
 have hL : ofL m z n = ofD (mnsD m z) n := by unfold ofL; rw [if_pos hE]
 have hn0 : 0 <= n := by omega
 have hn1 : n <= 64 := by omega
 apply yf;apply yb;iterate 2 refine ya ?_
 refine yq hM ?_;iterate 5 refine ya ?_
 apply yj;iterate 2 refine ya ?_
 refine Ex.stepA (zjc (k := 39) (enc := intE) 0 sl22 ti3 rfl (by decide) rfl rfl rfl rfl (by omega) (fun _ => rfl) zqD) rfl rfl ?_;refine yH ?_;refine Ex.mo ?_;apply Ex.nil;apply yd;apply yb;refine ya ?_;refine yq (zbn _) ?_;apply Ex.nil;apply X.block;have hrow0 := zn4 (mnsD m z) n;have hrowN := zn5 (mnsD m z) n;have hbl := zg4 (mnsD m z);refine X.range (sl := [5, 12]) (fun j => ([.ptr 5 0 0 0, .ptr 12 0 0 0], [(5, .box [iv (ofN (mnsD m z) n j)] 3), (12, .box [.own 39] 22), (39, .row intE (List.replicate ((mnsD m z).length - j) 0 ++ zax (mnsD m z) n j) 3 1)])) (fun j => True) 900001 900002 rfl rfl (by decide) (fun j zs hj => by obtain ⟨_, rfl⟩ := zeF hj; rfl) (za5 (mnsD m z) (by omega)) trivial rfl rfl (by decide) (Nat.zero_le _) (by simp) (fun j zs hj => by obtain ⟨_, rfl⟩ := zeF hj; rfl) (fun _ => rfl) rfl rfl (fun l o us => yi) (trivial) (fun j zs hj hJ l ready busy rb vs g w hb hyB => ?_) (fun hJ => ?_)
 ·obtain ⟨hj4, rfl⟩ := zeF hj;obtain ⟨hN0, hN1⟩ := zki hn0 hn1 hmp j (by omega)
  have hxm : (mnsD m z).getD ((mnsD m z).length - 1 - j) [] ∈ mnsD m z := by
   rw [List.getD_eq_getElem?_getD, lgg (by omega)]; exact List.getElem_mem _
  have hx1 := hmp _ hxm;have hx2 := zeE hxm;have hr0 : 0 <= ofN (mnsD m z) n j % (((mnsD m z).getD ((mnsD m z).length - 1 - j) []).length : Int) := Int.emod_nonneg _ (by omega);have hr1 : ofN (mnsD m z) n j % (((mnsD m z).getD ((mnsD m z).length - 1 - j) []).length : Int) < (((mnsD m z).getD ((mnsD m z).length - 1 - j) []).length : Int) := Int.emod_lt_of_pos _ (by omega)
  have hv : ((mnsD m z).getD ((mnsD m z).length - 1 - j) [])[(ofN (mnsD m z) n j % (((mnsD m z).getD ((mnsD m z).length - 1 - j) []).length : Int)).toNat]? = some (ofV (mnsD m z) n j) := by
   unfold ofV; rw [List.getD_eq_getElem?_getD (l := (mnsD m z).getD ((mnsD m z).length - 1 - j) []), lgg (by omega)]; rfl
  have hrl : (List.replicate ((mnsD m z).length - j) 0 ++ zax (mnsD m z) n j).length = (mnsD m z).length := by simp [zg5]; omega
  have hset := zqE (n := n) hj4;apply yb;refine ye ?_;apply yc;refine ye ?_;refine ⟨rfl, rfl, ?_⟩;apply X.block;apply yd;refine zy [44,45,46,47,48,49,50,51,52] [0,0,0,0,0,16,56,124,252,511,1023] mo ?_;iterate 9 refine yl ?_
  refine y7 ?_;refine ya ?_;refine Ex.mo ?_;apply Ex.nil;apply yc;iterate 4 refine ya ?_
  refine Ex.mo ?_;apply Ex.nil;refine ⟨[.ptr 5 0 0 0, .ptr 12 0 0 0], [(5, .box [iv (ofN (mnsD m z) n (j + 1))] 3), (12, .box [.own 39] 22), (39, .row intE (List.replicate ((mnsD m z).length - (j + 1)) 0 ++ zax (mnsD m z) n (j + 1)) 3 1)], yi, rfl, trivial⟩
 apply yb;refine yn ?_;refine X.ret ?_;refine RetQ.imp (Imp.freeze (k := 39) rfl) ?_;refine yu ?_ ?_;all_goals (first | (simp [*]; done) | (rw [hE]; rfl) | (rw [hL, ← hrowN]; simp only [hbl]; rfl))
end Go.Rse
