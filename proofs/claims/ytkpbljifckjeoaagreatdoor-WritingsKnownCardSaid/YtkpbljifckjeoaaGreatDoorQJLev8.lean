/-
  A run read by the rule.
-/
import Derived.Test.YtkpbljifckjeoaaGreatDoorQJLev6
import Derived.Test.YtkpbljifckjeoaaGreatDoorQJWri2
import Derived.Test.YtkpbljifckjeoaaGreatDoorQJWri3
import Derived.Test.YtkpbljifckjeoaaGreatDoorQJLvl12
set_option linter.unusedSimpArgs false
set_option linter.unusedVariables false
namespace Go.Rse
open Go Go.Proofs
def rdI (m : Mn) (l : List Sg) : List Ite := itmV m l (z6 m l) (twos (prL m l).length)
def rdE (m : Mn) (l : List Sg) : Int := if ckD m l = 0 then leE m (rdI m l) else ckD m l
def rdV (m : Mn) (l : List Sg) : Rdg := if rdE m l = 0 then ⟨z6 m l, twos (prL m l).length, leC m (rdI m l), (leI m (rdI m l)).map (·.Dur)⟩ else ⟨[], [], [], []⟩
section
variable {m : Mn} {l : List Sg}
theorem zo8 (h : ckD m l = 0) : itmE m l (z6 m l) (twos (prL m l).length) = 0 := by
 unfold itmE;rw [if_pos (znq (zfV h).1 h)]; exact znr h
theorem zut (h : ¬ ckD m l = 0) : rdE m l = ckD m l /\ rdV m l = ⟨[], [], [], []⟩ := by
 have : rdE m l = ckD m l := by unfold rdE; rw [if_neg h]
 refine ⟨this, ?_⟩; unfold rdV; rw [this, if_neg h]
theorem zuu (h : ckD m l = 0) (h2 : ¬ leE m (rdI m l) = 0) : rdE m l = leE m (rdI m l) /\ rdV m l = ⟨[], [], [], []⟩ := by
 have : rdE m l = leE m (rdI m l) := by unfold rdE; rw [if_pos h]
 refine ⟨this, ?_⟩; unfold rdV; rw [this, if_neg h2]
theorem zuv (h : ckD m l = 0) (h2 : leE m (rdI m l) = 0) : rdE m l = 0 /\ rdV m l = ⟨z6 m l, twos (prL m l).length, leC m (rdI m l), (leI m (rdI m l)).map (·.Dur)⟩ := by
 have : rdE m l = 0 := by unfold rdE; rw [if_pos h, h2]
 refine ⟨this, ?_⟩; unfold rdV; rw [this, if_pos rfl]
theorem zj6 : (rdI m l).length <= l.length := zlZ _ _ _ _
end
theorem zj7 {m : Mn} : ∀ (L : List Int) (l : List Ite) (C : List Int), (lvF m L l C).2.1.length <= l.length
 | [], l, C => Nat.le_refl _
 | k :: r, l, C => by
  unfold lvF;split
  ·rename_i h;have := zj7 (m := m) r (apV m k l (cuV m k l)) (C ++ cuV m k l);rw [zhU (zkh h)] at this; exact this
  ·simp
theorem zj8 (m : Mn) (l : List Ite) : (leI m l).length <= l.length := by
 unfold leI;split
 ·exact zj7 _ _ _
 ·simp
theorem zpV {l : List Ite} {n : Nat} {x : Ite} (h : l[n]? = some x) : (l.take n).map (·.Dur) ++ [x.Dur] = (l.take (n + 1)).map (·.Dur) := by
 rw [List.take_add_one, h]; simp
end Go.Rse
namespace Go.Rse
open Go Go.Proofs
def cnP (m : Mn) (h : Hb) : List Bt -> Nat
 | [] => 1
 | b :: r => (frV m b h).length * cnP m h r
theorem ziK (m : Mn) (h : Hb) (b : Bt) : ∀ l, cnP m h (l ++ [b]) = cnP m h l * (frV m b h).length
 | [] => by simp [cnP]
 | x :: r => by
  show (frV m x h).length * cnP m h (r ++ [b]) = (frV m x h).length * cnP m h r * _;rw [ziK m h b r, Nat.mul_assoc]
theorem zrA {m : Mn} {h : Hb} {l : List Bt} {i : Nat} {b : Bt} (hi : l[i]? = some b) : cnP m h (l.take (i + 1)) = cnP m h (l.take i) * (frV m b h).length := by
 rw [List.take_add_one, hi]; exact ziK m h b _
theorem zl0 (m : Mn) (h : Hb) : ∀ l, cnP m h l <= 32 ^ l.length
 | [] => Nat.le_refl _
 | b :: r => by
  have h1 := zh8 m b h;have h2 := zl0 m h r;show (frV m b h).length * cnP m h r <= 32 ^ (r.length + 1);rw [Nat.pow_succ, Nat.mul_comm];exact Nat.mul_le_mul h2 h1
theorem zpW {m : Mn} {h : Hb} {l : List Bt} (hl : l.length <= 12) (i : Nat) : cnP m h (l.take i) <= 1152921504606846976 := by
 refine Nat.le_trans (zl0 m h _) ?_;rw [show 1152921504606846976 = 32 ^ 12 by decide];exact Nat.pow_le_pow_right (by decide) (by rw [List.length_take]; omega)
def wcnE (m : Mn) (l : List Bt) (h : Hb) : Int := if wcE m l = 0 then (if 12 < l.length then 11 else if 4096 < cnP m h l then 15 else 0) else wcE m l
def wcnV (m : Mn) (l : List Bt) (h : Hb) : Int := if wcnE m l h = 0 then (cnP m h l : Int) else 0
attribute [local irreducible] frV
def reQ (m : Mn) (l : List Sg) (D : List Tm) : Bool := decide (rdE m l = 0) && decide ((rdV m l).Durs = D)
theorem zns (r : Bool) (f : Fo) : 1 <= (foS r f).length /\ (foS r f).length <= 2 := by
 unfold foS; cases f.d <;> simp
theorem zl1 {m : Mn} {b : Bt} {h : Hb} {f : List Sg} (hf : f ∈ frV m b h) : 1 <= f.length /\ f.length <= 2 := by
 unfold frV at hf;obtain ⟨x, -, rfl⟩ := List.mem_map.1 hf;exact zns _ _
end Go.Rse
namespace Go.Rse
open Go Go.Proofs
def fmV (m : Mn) (b : Bt) (h : Hb) : List (List Sg) := if wcE m [b] = 0 then frV m b h else []
theorem zl2 {m : Mn} {l : List Bt} {h : Hb} (c : ¬ wcE m l = 0) : wcnE m l h = wcE m l /\ wcnV m l h = 0 := by
 have e : wcnE m l h = wcE m l := by unfold wcnE; rw [if_neg c]
 exact ⟨e, by unfold wcnV; rw [e, if_neg c]⟩
theorem zl3 {m : Mn} {l : List Bt} {h : Hb} (c : wcE m l = 0) (c2 : 12 < l.length) : wcnE m l h = 11 /\ wcnV m l h = 0 := by
 have e : wcnE m l h = 11 := by unfold wcnE; rw [if_pos c, if_pos c2]
 exact ⟨e, by unfold wcnV; rw [e]; rfl⟩
theorem zo9 {m : Mn} {l : List Bt} {h : Hb} (c : wcE m l = 0) (c2 : ¬ 12 < l.length) (c3 : 4096 < cnP m h l) : wcnE m l h = 15 /\ wcnV m l h = 0 := by
 have e : wcnE m l h = 15 := by unfold wcnE; rw [if_pos c, if_neg c2, if_pos c3]
 exact ⟨e, by unfold wcnV; rw [e]; rfl⟩
theorem zrB {m : Mn} {l : List Bt} {h : Hb} (c : wcE m l = 0) (c2 : ¬ 12 < l.length) (c3 : ¬ 4096 < cnP m h l) : wcnE m l h = 0 /\ wcnV m l h = (cnP m h l : Int) := by
 have e : wcnE m l h = 0 := by unfold wcnE; rw [if_pos c, if_neg c2, if_neg c3]
 exact ⟨e, by unfold wcnV; rw [e]; rfl⟩
theorem zpX {m : Mn} {h : Hb} {l : List Bt} {k : Nat} {b : Bt} (hi : l[k]? = some b) : ((cnP m h (l.take k) : Nat) : Int) * ((frV m b h).length : Int) = ((cnP m h (l.take (k + 1)) : Nat) : Int) := by
 rw [zrA hi]; simp
def rsL (l : List Sg) : List Bool := (l.filter fun s => !decide (s.Kind = 3)).map fun s => decide (s.Kind = 2)
theorem zj9 {l : List Sg} {k : Nat} {s : Sg} (h : l[k]? = some s) (h3 : s.Kind = 3) : rsL (l.take k) = rsL (l.take (k + 1)) := by
 unfold rsL; rw [List.take_add_one, h]; simp [h3]
theorem zl4 {l : List Sg} {k : Nat} {s : Sg} (h : l[k]? = some s) (h3 : ¬ s.Kind = 3) : rsL (l.take k) ++ [decide (s.Kind = 2)] = rsL (l.take (k + 1)) := by
 unfold rsL; rw [List.take_add_one, h]; simp [h3]
theorem zka (l : List Sg) : (rsL l).length <= l.length := by
 unfold rsL; rw [List.length_map]; exact List.length_filter_le _ _
attribute [local irreducible] Pur yC yE Ex X Fn Imp LeV LeB FnO It yJ FnW FnOW FnP FnD
attribute [local irreducible] wcE btF ckT ckM ckD frV wcnE wcnV cnP durB rdE rdV rsL
theorem zgZ (m : Mn) (b : Bt) (h : Hb) : Fn Tryz.prog 64 [mnA m, btA b, hbA h] (.tup [z8 (fmV m b h), iv (wcE m [b])]) := by
 refine Fn.go Tryz.func64 Tryz.ntmps64 (fun g w d => ?_);apply yb;iterate 3 refine yF ?_
 refine yg ?_;apply yd;apply yb;iterate 2 refine ya ?_
 refine Ex.stepA (yy (enc := btE) (l := [b]) sl22 ty76 ze76 (by decide) rfl rfl rfl rfl (by decide) (by decide) (fun _ => rfl) rfl) rfl rfl ?_;refine yj (zdT m [b] (by simp)) ?_;refine ya ?_;apply yi;refine yg ?_;refine yl rfl ?_ ?_<;>intro hc1
 ·have hV : fmV m b h = [] := by unfold fmV; rw [if_neg hc1]
  apply yb;refine yo ?_;refine X.ret ?_;refine RetQ.imp (yn (ts := [(6, z8 []), (7, iv (wcE m [b]))]) (hs := [])) ?_;refine yw ?_ ?_;all_goals (first | (rw [hV]; done) | rfl)
 have h0 : wcE m [b] = 0 := by omega
 have hV : fmV m b h = frV m b h := by unfold fmV; rw [if_pos h0]
 apply yf;apply yb;iterate 3 refine ya ?_
 refine yj (zdU m b h) ?_;refine yg ?_;refine X.ret ?_;refine yw ?_ ?_;all_goals (first | exact congrArg (fun z => z8 z) hV.symm | exact congrArg (AV.int .i64) h0.symm)
set_option maxHeartbeats 1000000 in
theorem zdM (m : Mn) (l : List Bt) (h : Hb) (hl : l.length <= 4000000000) : Fn Tryz.prog 45 [mnA m, btsA l, hbA h] (.tup [iv (wcnV m l h), iv (wcnE m l h)]) := by
 have hp0 : (1 : Int) = ((cnP m h (l.take 0) : Nat) : Int) := by unfold cnP; rfl
 refine Fn.go Tryz.func45 Tryz.ntmps45 (fun g w d => ?_);apply yb;iterate 2 refine yF ?_
 refine yg ?_;apply yd;apply yb;iterate 2 refine ya ?_
 refine yj (zdT m l hl) ?_;refine ya ?_;apply yi;refine yg ?_;refine yl rfl ?_ ?_<;>intro hc1
 ·have hZ1 := zl2 (h := h) hc1;obtain ⟨hE, hV⟩ := hZ1;apply yb;refine yo ?_;refine X.ret ?_;refine yw ?_ ?_;all_goals (first | (rw [hV]; done) | (rw [hE]; done) | (rw [hV, htk]; done))
 have h0 : wcE m l = 0 := by omega
 apply yf;apply yd;apply yb;refine yo ?_;refine yl rfl ?_ ?_<;>intro hc2
 ·have hZ2 := zl3 (h := h) h0 (by omega);obtain ⟨hE, hV⟩ := hZ2;apply yb;refine yg ?_;refine X.ret ?_;refine yw ?_ ?_;all_goals (first | (rw [hV]; done) | (rw [hE]; done) | (rw [hV, htk]; done))
 have h12 : ¬ 12 < l.length := by omega
 apply yf;apply yb;refine ye ?_;apply yd;apply yb;refine yo ?_;apply X.block
 refine zl (ι := Nat) (fun (k : Nat) => [(3, .ptr 3 0 0 0), (5, .ptr 5 0 0 0), (9, iv ((cnP m h (l.take k) : Nat) : Int)), (21, btsA l), (22, iv (l.length : Int)), (23, iv (k : Int))]) (fun (k : Nat) => [(3, .box (mnE m) 32), (5, .box (hbE h) 35)]) (fun (k : Nat) => k <= l.length) (fun (k : Nat) => l.length - k) 0 (fun k hk => ?_) (h0 := by
  exact yq)
 apply yb;refine ye ?_;apply yd;refine yl rfl ?_ ?_<;>intro hc3
 ·obtain ⟨b, hb⟩ : ∃ b, l[k]? = some b := ⟨_, lgg (by omega)⟩;have hb2 : l[(k : Int).toNat]? = some b := by simpa using hb
  have hs := zpX (m := m) (h := h) hb;have hq := zpW (m := m) (h := h) (l := l) (by omega) (k + 1);have hf := zh8 m b h;apply yf;apply yd;apply X.block;apply yb;iterate 2 refine ya ?_
  refine yD ?_;refine Ex.mo ?_;apply Ex.nil;apply yc;iterate 4 refine ya ?_
  refine yj (zdU m b h) ?_;refine yo ?_;apply yc;refine yg ?_;refine yM (k + 1) (hI := yq)
 ·obtain rfl : k = l.length := by omega
  have htk : cnP m h (l.take l.length) = cnP m h l := by rw [List.take_length]
  apply X.exit;apply yd;apply yb;refine yg ?_;refine yl rfl ?_ ?_<;>intro hc4
  ·have hZ3 := zo9 (h := h) h0 h12 (by omega);obtain ⟨hE, hV⟩ := hZ3;apply yb;refine yg ?_;refine X.ret ?_;refine yw ?_ ?_;all_goals (first | (rw [hV]; done) | (rw [hE]; done) | (rw [hV, htk]; done))
  have hZ4 := zrB (h := h) h0 h12 (by omega);obtain ⟨hE, hV⟩ := hZ4;apply yf;apply yb;refine yo ?_;refine X.ret ?_;refine yw ?_ ?_;all_goals (first | (rw [hV]; done) | (rw [hE]; done) | (rw [hV, htk]; done))
end Go.Rse
namespace Go.Rse
open Go Go.Proofs
instance : ZcK Tryz.prog 264 [.nilf, .int .i64 0, .int .i64 0] := ⟨⟨_, ztw, rfl⟩⟩
attribute [local irreducible] Pur yC yE Ex X Fn Imp LeV LeB FnO It yJ FnW FnOW
theorem zf1 {L A : List Int} {j : Nat} {c : Int} (hj : L[j]? = some c) (hc : c ∈ A) (h : ∀ i : Nat, i < j -> ∀ d, L[i]? = some d -> d ∉ A) : L.find? (fun c => decide (c ∈ A)) = some c := by
 rw [List.find?_eq_some_iff_append];refine ⟨by simpa using hc, L.take j, L.drop (j + 1), ?_, fun a ha => ?_⟩
 ·have hl := (List.getElem?_eq_some_iff.1 hj);rw [← hl.2, List.getElem_cons_drop, List.take_append_drop]
 ·obtain ⟨i, hi, e⟩ := List.getElem_of_mem ha;rw [List.length_take] at hi;have := h i (by omega) a (by rw [← e, List.getElem_take, lgg]);simpa using this
theorem zeg {L A : List Int} (h : ∀ i : Nat, i < L.length -> ∀ d, L[i]? = some d -> d ∉ A) : L.find? (fun c => decide (c ∈ A)) = none := by
 rw [List.find?_eq_none];intro c hc;obtain ⟨i, hi, e⟩ := List.getElem_of_mem hc;have := h i hi c (by rw [← e, lgg]);simpa using this
theorem zeh {L A : List Int} {j : Nat} {c : Int} (hj : L[j]? = some c) (hc : c ∉ A) (h : ∀ i : Nat, i < j -> ∀ d, L[i]? = some d -> d ∉ A) : ∀ i : Nat, i < j + 1 -> ∀ d, L[i]? = some d -> d ∉ A := by
 intro i hi d hd;by_cases e : i = j
 ·subst e; rw [hj] at hd; injection hd with hd; subst hd; exact hc
 ·exact h i (by omega) d hd
theorem zl5 (p : Int -> Bool) (a : Int) : [a, a].find? p = [a].find? p := by
 simp only [List.find?]; cases p a <;> rfl
theorem za8 (s : Sgm) (n : Int) (hN : 0 <= s.Count.N) : Fn Tryz.prog 233 [smA s, .ept (fun _ : Unit => [iv n]) () 0] (.bool (decide (s.Count.N % 3 = n))) := by
 refine Fn.go Tryz.func233 Tryz.ntmps233 (fun g w d => ?_);apply yb;refine yF ?_;refine ya ?_;apply yi;iterate 6 refine ya ?_
 refine ye ?_;refine X.ret ?_;refine yh ?_;all_goals (first | rfl | (simp_all; done))
theorem zbC (n : Int) : Fn Tryz.prog 232 [iv n] (.fn 233 [.ept (fun _ : Unit => [iv n]) () 0]) := by
 refine Fn.go Tryz.func232 Tryz.ntmps232 (fun g w d => ?_);apply yb;refine zbr ?_;refine ya ?_;apply yi;refine yg ?_;refine X.ret ?_;refine RetQ.imp (yT (k := 1) rfl rfl) ?_;refine yh ?_;all_goals (first | rfl | (simp_all; done))
theorem zf2 (s : Sgm) : Fn Tryz.prog 234 [smA s] (.bool s.Free) := by
 refine Fn.go Tryz.func234 Tryz.ntmps234 (fun g w d => ?_);apply yb;refine yF ?_;refine ya ?_;apply yi;refine yo ?_;refine X.ret ?_;refine yh ?_;all_goals (first | rfl | (simp_all; done))
theorem zf3 (s : Sgm) : Fn Tryz.prog 235 [smA s] (.bool (decide (s.Count.N = 2))) := by
 refine Fn.go Tryz.func235 Tryz.ntmps235 (fun g w d => ?_);apply yb;refine yF ?_;refine ya ?_;apply yi;refine zu ?_;refine X.ret ?_;refine yh ?_;all_goals (first | rfl | (simp_all; done))
theorem zhW  : Fn Tryz.prog 210 [] (.agg [.fn 234 [], iv 1, iv 0, .fn 233 [.ept (fun _ : Unit => [iv 0]) () 0], iv 0, iv 0, .fn 233 [.ept (fun _ : Unit => [iv 1]) () 0], iv 1, iv 2, .fn 235 [], iv 4, iv 3, .fn 233 [.ept (fun _ : Unit => [iv 2]) () 0], iv 3, iv 4]) := by
 refine Fn.go Tryz.func210 Tryz.ntmps210 (fun g w d => ?_);apply yb;refine yD ?_;apply yi;refine ya ?_;apply yi;iterate 2 refine ya ?_
 refine yj (zbC 0) ?_;iterate 2 refine ya ?_
 refine yj (zbC 1) ?_;iterate 3 refine ya ?_
 refine yj (zbC 2) ?_;iterate 2 refine ya ?_
 refine Ex.mo ?_;apply Ex.nil;refine X.ret ?_;refine RetQ.ret (.one (.cellA rfl rfl rfl rfl zpB (LeV.eq ?_)));all_goals (first | rfl | (simp_all; done))
attribute [local irreducible] chF wnL
set_option maxHeartbeats 2000000 in
theorem zg0 (s : Sgm) (A : List Int) (hN : 0 <= s.Count.N) (hA : A.length <= 1000000) : Fn Tryz.prog 177 [smA s, ym A] (.tup [iv ((chF s A).getD 0), .bool (chF s A).isSome]) := by
 refine Fn.go Tryz.func177 Tryz.ntmps177 (fun g w d => ?_);apply yb;refine yF ?_;refine yg ?_;apply yd;apply yb;refine yj zhW ?_;refine ye ?_;apply X.block
 refine zl (ι := Nat) (fun (n : Nat) => [(1, ym A), (2, .ptr 2 0 0 0), (4, iv 0), (5, .bool false), (10, .agg [.fn 234 [], iv 1, iv 0, .fn 233 [.ept (fun _ : Unit => [iv 0]) () 0], iv 0, iv 0, .fn 233 [.ept (fun _ : Unit => [iv 1]) () 0], iv 1, iv 2, .fn 235 [], iv 4, iv 3, .fn 233 [.ept (fun _ : Unit => [iv 2]) () 0], iv 3, iv 4]), (11, iv (n : Int))]) (fun (n : Nat) => [(2, .box (smE s) 232)]) (fun (n : Nat) => n <= 5 /\ (1 <= n -> ¬ s.Free = true) /\ (2 <= n -> ¬ s.Count.N % 3 = 0) /\ (3 <= n -> ¬ s.Count.N % 3 = 1) /\ (4 <= n -> ¬ s.Count.N = 2) /\ (5 <= n -> ¬ s.Count.N % 3 = 2)) (fun (n : Nat) => 5 - n) 0 (fun n hk => ?_) (hJ := by
  exact ⟨by omega, by omega, by omega, by omega, by omega, by omega⟩)
 obtain ⟨hk1, hk2, hk3, hk4, hk5, hk6⟩ := hk;apply yb;refine ye ?_;apply yd;refine yl rfl ?_ ?_<;>intro hc1
 ·apply yf;apply yd;apply X.block;apply yd;obtain hn | hn | hn | hn | hn : n = 0 \/ n = 1 \/ n = 2 \/ n = 3 \/ n = 4 := by omega
  ·have hpt : (([.fn 234 [], iv 1, iv 0, .fn 233 [.ept (fun _ : Unit => [iv 0]) () 0], iv 0, iv 0, .fn 233 [.ept (fun _ : Unit => [iv 1]) () 0], iv 1, iv 2, .fn 235 [], iv 4, iv 3, .fn 233 [.ept (fun _ : Unit => [iv 2]) () 0], iv 3, iv 4] : List AV).drop (((n : Nat) : Int).toNat * 3)).take 3 = [.fn 234 [], iv 1, iv 0] := by rw [hn]; rfl
   apply yc;refine ya (hs := by exact zC ArK.h TyK.h rfl rfl (by omega) (by omega) hpt) ?_;refine yD ?_;refine Ex.mo ?_;apply Ex.nil;apply yd;apply yb;(iterate 3 refine ya ?_);refine yj (zf2 s) ?_;refine ye ?_;refine yl rfl ?_ ?_<;>intro hc2
   ·have hx0 : ¬ s.Free = true := by first | exact hc2 | (rw [hc2]; decide) | (simp at hc2; simp [hc2]; done) | omega
    apply X.exit;apply yc;refine yg ?_
    refine yM (n + 1) (hJ := by
     refine ⟨by omega, ?_, ?_, ?_, ?_, ?_⟩ <;> intro h6 <;> first | assumption | (exact absurd h6 (by omega)) | (exact hk2 (by omega)) | (exact hk3 (by omega)) | (exact hk4 (by omega)) | (exact hk5 (by omega)) | (exact hk6 (by omega)))
   have hy : s.Free = true := by first | exact hc2 | (simp at hc2; exact hc2) | omega
   have hW : (wnL s).find? (fun c => decide (c ∈ A)) = [(1 : Int), 0].find? (fun c => decide (c ∈ A)) := by
    have h0 := hk2;rw [show wnL s = [1, 0] by unfold wnL; simp_all]
   apply yf;apply yd;apply yb;(iterate 4 refine ya ?_);refine yW intE [_, _] ?_;refine yg ?_;apply X.block
   refine zl (ι := Nat) (fun (j : Nat) => [(1, ym A), (2, .ptr 2 0 0 0), (4, iv 0), (5, .bool false), (10, .agg [.fn 234 [], iv 1, iv 0, .fn 233 [.ept (fun _ : Unit => [iv 0]) () 0], iv 0, iv 0, .fn 233 [.ept (fun _ : Unit => [iv 1]) () 0], iv 1, iv 2, .fn 235 [], iv 4, iv 3, .fn 233 [.ept (fun _ : Unit => [iv 2]) () 0], iv 3, iv 4]), (11, iv (n : Int)), (23, .own 23), (24, iv 2), (25, iv (j : Int))]) (fun (j : Nat) => [(2, .box (smE s) 232), (23, .row intE [1, 0] 3 1)]) (fun (j : Nat) => j <= 2 /\ ∀ i : Nat, i < j -> ∀ d, ([1, 0] : List Int)[i]? = some d -> d ∉ A) (fun (j : Nat) => 2 - j) 0 (fun j hk => ?_) (hJ := by
    exact ⟨by omega, fun i hi => absurd hi (by omega)⟩)
   obtain ⟨hj1, hj2⟩ := hk;apply yb;refine ye ?_;apply yd;refine yl rfl ?_ ?_<;>intro hc3
   ·obtain ⟨x, hx⟩ : ∃ x, ([1, 0] : List Int)[j]? = some x := ⟨_, lgg (by simp; omega)⟩;have hx2 : ([1, 0] : List Int)[(j : Int).toNat]? = some x := by simpa using hx
    apply yf;apply yd;apply X.block;apply yb;(iterate 3 refine ya ?_);apply yi;(iterate 2 refine ya ?_);refine yj (yO A x (by omega)) ?_;apply Ex.nil;refine yl rfl ?_ ?_<;>intro hc4
    ·have hE : chF s A = some x := by unfold chF; rw [hW]; exact zf1 hx (by simpa using hc4) hj2
     apply yb;refine yo ?_;refine X.ret ?_;refine yw ?_ ?_;all_goals (rw [hE]; rfl)
    apply yf;apply yc;refine yg ?_
    refine yM (j + 1) (hJ := by
     exact ⟨by omega, zeh hx (by simpa using hc4) hj2⟩)
   ·have hj3 : j = 2 := by omega
    subst hj3;have hE : chF s A = none := by unfold chF; rw [hW]; exact zeg hj2
    apply X.exit;apply yb;refine yg ?_;refine X.ret ?_;refine yw ?_ ?_;all_goals (rw [hE]; rfl)
  ·have hpt : (([.fn 234 [], iv 1, iv 0, .fn 233 [.ept (fun _ : Unit => [iv 0]) () 0], iv 0, iv 0, .fn 233 [.ept (fun _ : Unit => [iv 1]) () 0], iv 1, iv 2, .fn 235 [], iv 4, iv 3, .fn 233 [.ept (fun _ : Unit => [iv 2]) () 0], iv 3, iv 4] : List AV).drop (((n : Nat) : Int).toNat * 3)).take 3 = [.fn 233 [.ept (fun _ : Unit => [iv 0]) () 0], iv 0, iv 0] := by rw [hn]; rfl
   apply yc;refine ya (hs := by exact zC ArK.h TyK.h rfl rfl (by omega) (by omega) hpt) ?_;refine yD ?_;refine Ex.mo ?_;apply Ex.nil;apply yd;apply yb;(iterate 3 refine ya ?_);refine yj (za8 s 0 hN) ?_;refine ye ?_;refine yl rfl ?_ ?_<;>intro hc5
   ·have hx1 : ¬ s.Count.N % 3 = 0 := by first | exact hc5 | (rw [hc5]; decide) | (simp at hc5; simp [hc5]; done) | omega
    apply X.exit;apply yc;refine yg ?_
    refine yM (n + 1) (hJ := by
     refine ⟨by omega, ?_, ?_, ?_, ?_, ?_⟩ <;> intro h6 <;> first | assumption | (exact absurd h6 (by omega)) | (exact hk2 (by omega)) | (exact hk3 (by omega)) | (exact hk4 (by omega)) | (exact hk5 (by omega)) | (exact hk6 (by omega)))
   have hy : s.Count.N % 3 = 0 := by first | exact hc5 | (simp at hc5; exact hc5) | omega
   have hW : (wnL s).find? (fun c => decide (c ∈ A)) = [(0 : Int), 0].find? (fun c => decide (c ∈ A)) := by
    have h0 := hk2;rw [zl5, show wnL s = [0] by unfold wnL; simp_all]
   apply yf;apply yd;apply yb;(iterate 4 refine ya ?_);refine yW intE [_, _] ?_;refine yg ?_;apply X.block
   refine zl (ι := Nat) (fun (j : Nat) => [(1, ym A), (2, .ptr 2 0 0 0), (4, iv 0), (5, .bool false), (10, .agg [.fn 234 [], iv 1, iv 0, .fn 233 [.ept (fun _ : Unit => [iv 0]) () 0], iv 0, iv 0, .fn 233 [.ept (fun _ : Unit => [iv 1]) () 0], iv 1, iv 2, .fn 235 [], iv 4, iv 3, .fn 233 [.ept (fun _ : Unit => [iv 2]) () 0], iv 3, iv 4]), (11, iv (n : Int)), (23, .own 23), (24, iv 2), (25, iv (j : Int))]) (fun (j : Nat) => [(2, .box (smE s) 232), (23, .row intE [0, 0] 3 1)]) (fun (j : Nat) => j <= 2 /\ ∀ i : Nat, i < j -> ∀ d, ([0, 0] : List Int)[i]? = some d -> d ∉ A) (fun (j : Nat) => 2 - j) 0 (fun j hk => ?_) (hJ := by
    exact ⟨by omega, fun i hi => absurd hi (by omega)⟩)
   obtain ⟨hj1, hj2⟩ := hk;apply yb;refine ye ?_;apply yd;refine yl rfl ?_ ?_<;>intro hc6
   ·obtain ⟨x, hx⟩ : ∃ x, ([0, 0] : List Int)[j]? = some x := ⟨_, lgg (by simp; omega)⟩;have hx2 : ([0, 0] : List Int)[(j : Int).toNat]? = some x := by simpa using hx
    apply yf;apply yd;apply X.block;apply yb;(iterate 3 refine ya ?_);apply yi;(iterate 2 refine ya ?_);refine yj (yO A x (by omega)) ?_;apply Ex.nil;refine yl rfl ?_ ?_<;>intro hc7
    ·have hE : chF s A = some x := by unfold chF; rw [hW]; exact zf1 hx (by simpa using hc7) hj2
     apply yb;refine yo ?_;refine X.ret ?_;refine yw ?_ ?_;all_goals (rw [hE]; rfl)
    apply yf;apply yc;refine yg ?_
    refine yM (j + 1) (hJ := by
     exact ⟨by omega, zeh hx (by simpa using hc7) hj2⟩)
   ·have hj3 : j = 2 := by omega
    subst hj3;have hE : chF s A = none := by unfold chF; rw [hW]; exact zeg hj2
    apply X.exit;apply yb;refine yg ?_;refine X.ret ?_;refine yw ?_ ?_;all_goals (rw [hE]; rfl)
  ·have hpt : (([.fn 234 [], iv 1, iv 0, .fn 233 [.ept (fun _ : Unit => [iv 0]) () 0], iv 0, iv 0, .fn 233 [.ept (fun _ : Unit => [iv 1]) () 0], iv 1, iv 2, .fn 235 [], iv 4, iv 3, .fn 233 [.ept (fun _ : Unit => [iv 2]) () 0], iv 3, iv 4] : List AV).drop (((n : Nat) : Int).toNat * 3)).take 3 = [.fn 233 [.ept (fun _ : Unit => [iv 1]) () 0], iv 1, iv 2] := by rw [hn]; rfl
   apply yc;refine ya (hs := by exact zC ArK.h TyK.h rfl rfl (by omega) (by omega) hpt) ?_;refine yD ?_;refine Ex.mo ?_;apply Ex.nil;apply yd;apply yb;(iterate 3 refine ya ?_);refine yj (za8 s 1 hN) ?_;refine ye ?_;refine yl rfl ?_ ?_<;>intro hc8
   ·have hx2 : ¬ s.Count.N % 3 = 1 := by first | exact hc8 | (rw [hc8]; decide) | (simp at hc8; simp [hc8]; done) | omega
    apply X.exit;apply yc;refine yg ?_
    refine yM (n + 1) (hJ := by
     refine ⟨by omega, ?_, ?_, ?_, ?_, ?_⟩ <;> intro h6 <;> first | assumption | (exact absurd h6 (by omega)) | (exact hk2 (by omega)) | (exact hk3 (by omega)) | (exact hk4 (by omega)) | (exact hk5 (by omega)) | (exact hk6 (by omega)))
   have hy : s.Count.N % 3 = 1 := by first | exact hc8 | (simp at hc8; exact hc8) | omega
   have hW : (wnL s).find? (fun c => decide (c ∈ A)) = [(1 : Int), 2].find? (fun c => decide (c ∈ A)) := by
    have h0 := hk2;rw [show wnL s = [1, 2] by unfold wnL; simp_all]
   apply yf;apply yd;apply yb;(iterate 4 refine ya ?_);refine yW intE [_, _] ?_;refine yg ?_;apply X.block
   refine zl (ι := Nat) (fun (j : Nat) => [(1, ym A), (2, .ptr 2 0 0 0), (4, iv 0), (5, .bool false), (10, .agg [.fn 234 [], iv 1, iv 0, .fn 233 [.ept (fun _ : Unit => [iv 0]) () 0], iv 0, iv 0, .fn 233 [.ept (fun _ : Unit => [iv 1]) () 0], iv 1, iv 2, .fn 235 [], iv 4, iv 3, .fn 233 [.ept (fun _ : Unit => [iv 2]) () 0], iv 3, iv 4]), (11, iv (n : Int)), (23, .own 23), (24, iv 2), (25, iv (j : Int))]) (fun (j : Nat) => [(2, .box (smE s) 232), (23, .row intE [1, 2] 3 1)]) (fun (j : Nat) => j <= 2 /\ ∀ i : Nat, i < j -> ∀ d, ([1, 2] : List Int)[i]? = some d -> d ∉ A) (fun (j : Nat) => 2 - j) 0 (fun j hk => ?_) (hJ := by
    exact ⟨by omega, fun i hi => absurd hi (by omega)⟩)
   obtain ⟨hj1, hj2⟩ := hk;apply yb;refine ye ?_;apply yd;refine yl rfl ?_ ?_<;>intro hc9
   ·obtain ⟨x, hx⟩ : ∃ x, ([1, 2] : List Int)[j]? = some x := ⟨_, lgg (by simp; omega)⟩;have hx2 : ([1, 2] : List Int)[(j : Int).toNat]? = some x := by simpa using hx
    apply yf;apply yd;apply X.block;apply yb;(iterate 3 refine ya ?_);apply yi;(iterate 2 refine ya ?_);refine yj (yO A x (by omega)) ?_;apply Ex.nil;refine yl rfl ?_ ?_<;>intro hc10
    ·have hE : chF s A = some x := by unfold chF; rw [hW]; exact zf1 hx (by simpa using hc10) hj2
     apply yb;refine yo ?_;refine X.ret ?_;refine yw ?_ ?_;all_goals (rw [hE]; rfl)
    apply yf;apply yc;refine yg ?_
    refine yM (j + 1) (hJ := by
     exact ⟨by omega, zeh hx (by simpa using hc10) hj2⟩)
   ·have hj3 : j = 2 := by omega
    subst hj3;have hE : chF s A = none := by unfold chF; rw [hW]; exact zeg hj2
    apply X.exit;apply yb;refine yg ?_;refine X.ret ?_;refine yw ?_ ?_;all_goals (rw [hE]; rfl)
  ·have hpt : (([.fn 234 [], iv 1, iv 0, .fn 233 [.ept (fun _ : Unit => [iv 0]) () 0], iv 0, iv 0, .fn 233 [.ept (fun _ : Unit => [iv 1]) () 0], iv 1, iv 2, .fn 235 [], iv 4, iv 3, .fn 233 [.ept (fun _ : Unit => [iv 2]) () 0], iv 3, iv 4] : List AV).drop (((n : Nat) : Int).toNat * 3)).take 3 = [.fn 235 [], iv 4, iv 3] := by rw [hn]; rfl
   apply yc;refine ya (hs := by exact zC ArK.h TyK.h rfl rfl (by omega) (by omega) hpt) ?_;refine yD ?_;refine Ex.mo ?_;apply Ex.nil;apply yd;apply yb;(iterate 3 refine ya ?_);refine yj (zf3 s) ?_;refine ye ?_;refine yl rfl ?_ ?_<;>intro hc11
   ·have hx3 : ¬ s.Count.N = 2 := by first | exact hc11 | (rw [hc11]; decide) | (simp at hc11; simp [hc11]; done) | omega
    apply X.exit;apply yc;refine yg ?_
    refine yM (n + 1) (hJ := by
     refine ⟨by omega, ?_, ?_, ?_, ?_, ?_⟩ <;> intro h6 <;> first | assumption | (exact absurd h6 (by omega)) | (exact hk2 (by omega)) | (exact hk3 (by omega)) | (exact hk4 (by omega)) | (exact hk5 (by omega)) | (exact hk6 (by omega)))
   have hy : s.Count.N = 2 := by first | exact hc11 | (simp at hc11; exact hc11) | omega
   have hW : (wnL s).find? (fun c => decide (c ∈ A)) = [(4 : Int), 3].find? (fun c => decide (c ∈ A)) := by
    have h0 := hk2;rw [show wnL s = [4, 3] by unfold wnL; simp_all]
   apply yf;apply yd;apply yb;(iterate 4 refine ya ?_);refine yW intE [_, _] ?_;refine yg ?_;apply X.block
   refine zl (ι := Nat) (fun (j : Nat) => [(1, ym A), (2, .ptr 2 0 0 0), (4, iv 0), (5, .bool false), (10, .agg [.fn 234 [], iv 1, iv 0, .fn 233 [.ept (fun _ : Unit => [iv 0]) () 0], iv 0, iv 0, .fn 233 [.ept (fun _ : Unit => [iv 1]) () 0], iv 1, iv 2, .fn 235 [], iv 4, iv 3, .fn 233 [.ept (fun _ : Unit => [iv 2]) () 0], iv 3, iv 4]), (11, iv (n : Int)), (23, .own 23), (24, iv 2), (25, iv (j : Int))]) (fun (j : Nat) => [(2, .box (smE s) 232), (23, .row intE [4, 3] 3 1)]) (fun (j : Nat) => j <= 2 /\ ∀ i : Nat, i < j -> ∀ d, ([4, 3] : List Int)[i]? = some d -> d ∉ A) (fun (j : Nat) => 2 - j) 0 (fun j hk => ?_) (hJ := by
    exact ⟨by omega, fun i hi => absurd hi (by omega)⟩)
   obtain ⟨hj1, hj2⟩ := hk;apply yb;refine ye ?_;apply yd;refine yl rfl ?_ ?_<;>intro hc12
   ·obtain ⟨x, hx⟩ : ∃ x, ([4, 3] : List Int)[j]? = some x := ⟨_, lgg (by simp; omega)⟩;have hx2 : ([4, 3] : List Int)[(j : Int).toNat]? = some x := by simpa using hx
    apply yf;apply yd;apply X.block;apply yb;(iterate 3 refine ya ?_);apply yi;(iterate 2 refine ya ?_);refine yj (yO A x (by omega)) ?_;apply Ex.nil;refine yl rfl ?_ ?_<;>intro hc13
    ·have hE : chF s A = some x := by unfold chF; rw [hW]; exact zf1 hx (by simpa using hc13) hj2
     apply yb;refine yo ?_;refine X.ret ?_;refine yw ?_ ?_;all_goals (rw [hE]; rfl)
    apply yf;apply yc;refine yg ?_
    refine yM (j + 1) (hJ := by
     exact ⟨by omega, zeh hx (by simpa using hc13) hj2⟩)
   ·have hj3 : j = 2 := by omega
    subst hj3;have hE : chF s A = none := by unfold chF; rw [hW]; exact zeg hj2
    apply X.exit;apply yb;refine yg ?_;refine X.ret ?_;refine yw ?_ ?_;all_goals (rw [hE]; rfl)
  ·have hpt : (([.fn 234 [], iv 1, iv 0, .fn 233 [.ept (fun _ : Unit => [iv 0]) () 0], iv 0, iv 0, .fn 233 [.ept (fun _ : Unit => [iv 1]) () 0], iv 1, iv 2, .fn 235 [], iv 4, iv 3, .fn 233 [.ept (fun _ : Unit => [iv 2]) () 0], iv 3, iv 4] : List AV).drop (((n : Nat) : Int).toNat * 3)).take 3 = [.fn 233 [.ept (fun _ : Unit => [iv 2]) () 0], iv 3, iv 4] := by rw [hn]; rfl
   apply yc;refine ya (hs := by exact zC ArK.h TyK.h rfl rfl (by omega) (by omega) hpt) ?_;refine yD ?_;refine Ex.mo ?_;apply Ex.nil;apply yd;apply yb;(iterate 3 refine ya ?_);refine yj (za8 s 2 hN) ?_;refine ye ?_;refine yl rfl ?_ ?_<;>intro hc14
   ·have hx4 : ¬ s.Count.N % 3 = 2 := by first | exact hc14 | (rw [hc14]; decide) | (simp at hc14; simp [hc14]; done) | omega
    apply X.exit;apply yc;refine yg ?_
    refine yM (n + 1) (hJ := by
     refine ⟨by omega, ?_, ?_, ?_, ?_, ?_⟩ <;> intro h6 <;> first | assumption | (exact absurd h6 (by omega)) | (exact hk2 (by omega)) | (exact hk3 (by omega)) | (exact hk4 (by omega)) | (exact hk5 (by omega)) | (exact hk6 (by omega)))
   have hy : s.Count.N % 3 = 2 := by first | exact hc14 | (simp at hc14; exact hc14) | omega
   have hW : (wnL s).find? (fun c => decide (c ∈ A)) = [(3 : Int), 4].find? (fun c => decide (c ∈ A)) := by
    have h0 := hk2;rw [show wnL s = [3, 4] by unfold wnL; simp_all]
   apply yf;apply yd;apply yb;(iterate 4 refine ya ?_);refine yW intE [_, _] ?_;refine yg ?_;apply X.block
   refine zl (ι := Nat) (fun (j : Nat) => [(1, ym A), (2, .ptr 2 0 0 0), (4, iv 0), (5, .bool false), (10, .agg [.fn 234 [], iv 1, iv 0, .fn 233 [.ept (fun _ : Unit => [iv 0]) () 0], iv 0, iv 0, .fn 233 [.ept (fun _ : Unit => [iv 1]) () 0], iv 1, iv 2, .fn 235 [], iv 4, iv 3, .fn 233 [.ept (fun _ : Unit => [iv 2]) () 0], iv 3, iv 4]), (11, iv (n : Int)), (23, .own 23), (24, iv 2), (25, iv (j : Int))]) (fun (j : Nat) => [(2, .box (smE s) 232), (23, .row intE [3, 4] 3 1)]) (fun (j : Nat) => j <= 2 /\ ∀ i : Nat, i < j -> ∀ d, ([3, 4] : List Int)[i]? = some d -> d ∉ A) (fun (j : Nat) => 2 - j) 0 (fun j hk => ?_) (hJ := by
    exact ⟨by omega, fun i hi => absurd hi (by omega)⟩)
   obtain ⟨hj1, hj2⟩ := hk;apply yb;refine ye ?_;apply yd;refine yl rfl ?_ ?_<;>intro hc15
   ·obtain ⟨x, hx⟩ : ∃ x, ([3, 4] : List Int)[j]? = some x := ⟨_, lgg (by simp; omega)⟩;have hx2 : ([3, 4] : List Int)[(j : Int).toNat]? = some x := by simpa using hx
    apply yf;apply yd;apply X.block;apply yb;(iterate 3 refine ya ?_);apply yi;(iterate 2 refine ya ?_);refine yj (yO A x (by omega)) ?_;apply Ex.nil;refine yl rfl ?_ ?_<;>intro hc16
    ·have hE : chF s A = some x := by unfold chF; rw [hW]; exact zf1 hx (by simpa using hc16) hj2
     apply yb;refine yo ?_;refine X.ret ?_;refine yw ?_ ?_;all_goals (rw [hE]; rfl)
    apply yf;apply yc;refine yg ?_
    refine yM (j + 1) (hJ := by
     exact ⟨by omega, zeh hx (by simpa using hc16) hj2⟩)
   ·have hj3 : j = 2 := by omega
    subst hj3;have hE : chF s A = none := by unfold chF; rw [hW]; exact zeg hj2
    apply X.exit;apply yb;refine yg ?_;refine X.ret ?_;refine yw ?_ ?_;all_goals (rw [hE]; rfl)
 ·exfalso; have a := hk3 (by omega); have b := hk4 (by omega); have c := hk6 (by omega); omega
end Go.Rse
