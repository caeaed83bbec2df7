/-
  Plain: how many combinations of forms, the first writing.
-/
import Derived.Test.YtkpbljifckjeoaaGreatDoorVJLev6
set_option linter.unusedSimpArgs false
set_option linter.unusedVariables false
namespace Go.Rse
open Go Go.Proofs
def cnP (m : Mn) (h : Hb) : List Bt -> Nat
 | [] => 1
 | b :: r => (frV m b h).length * cnP m h r
theorem zjS (m : Mn) (h : Hb) (b : Bt) : ∀ l, cnP m h (l ++ [b]) = cnP m h l * (frV m b h).length
 | [] => by simp [cnP]
 | x :: r => by
  show (frV m x h).length * cnP m h (r ++ [b]) = (frV m x h).length * cnP m h r * _;rw [zjS m h b r, Nat.mul_assoc]
theorem zun {m : Mn} {h : Hb} {l : List Bt} {i : Nat} {b : Bt} (hi : l[i]? = some b) : cnP m h (l.take (i + 1)) = cnP m h (l.take i) * (frV m b h).length := by
 rw [List.take_add_one, hi]; exact zjS m h b _
theorem znS (m : Mn) (h : Hb) : ∀ l, cnP m h l <= 32 ^ l.length
 | [] => Nat.le_refl _
 | b :: r => by
  have h1 := zfb m b h;have h2 := znS m h r;show (frV m b h).length * cnP m h r <= 32 ^ (r.length + 1);rw [Nat.pow_succ, Nat.mul_comm];exact Nat.mul_le_mul h2 h1
theorem zsm {m : Mn} {h : Hb} {l : List Bt} (hl : l.length <= 12) (i : Nat) : cnP m h (l.take i) <= 1152921504606846976 := by
 refine Nat.le_trans (znS m h _) ?_;rw [show 1152921504606846976 = 32 ^ 12 by decide];exact Nat.pow_le_pow_right (by decide) (by rw [List.length_take]; omega)
def wcnE (m : Mn) (l : List Bt) (h : Hb) : Int := if wcE m l = 0 then (if 12 < l.length then 11 else if 4096 < cnP m h l then 15 else 0) else wcE m l
def wcnV (m : Mn) (l : List Bt) (h : Hb) : Int := if wcnE m l h = 0 then (cnP m h l : Int) else 0
def cqO (m : Mn) (h : Hb) (l : List Bt) : Bool := l.any fun b => decide ((frV m b h).length = 0)
def cqS (m : Mn) (h : Hb) (n : Nat) (b : Bt) : Nat := if 0 < (frV m b h).length /\ n <= 4096 then n * (frV m b h).length else n
def cqN (m : Mn) (h : Hb) (l : List Bt) : Nat := l.foldl (cqS m h) 1
theorem zuo {m : Mn} {h : Hb} {l : List Bt} {i : Nat} {b : Bt} (hi : l[i]? = some b) : cqO m h (l.take (i + 1)) = (cqO m h (l.take i) || decide ((frV m b h).length = 0)) := by
 unfold cqO; rw [List.take_add_one, hi]; simp
theorem zup {m : Mn} {h : Hb} {l : List Bt} {i : Nat} {b : Bt} (hi : l[i]? = some b) : cqN m h (l.take (i + 1)) = cqS m h (cqN m h (l.take i)) b := by
 unfold cqN; rw [List.take_add_one, hi]; simp
theorem zsn {m : Mn} {h : Hb} {b : Bt} {n : Nat} (hn : n <= 131072) : cqS m h n b <= 131072 := by
 have h1 := zfb m b h;unfold cqS;generalize (frV m b h).length = k at h1 ⊢;by_cases hh : 0 < k /\ n <= 4096
 ·rw [if_pos hh];have h2 : n * k <= 4096 * k := Nat.mul_le_mul_right k hh.2;omega
 ·rw [if_neg hh]; exact hn
attribute [local irreducible] cqS frV
theorem zso (m : Mn) (h : Hb) (l : List Bt) : ∀ (n : Nat), n <= 131072 -> l.foldl (cqS m h) n <= 131072 := by
 induction l with
 | nil => intro n hn; exact hn
 | cons b r ih => intro n hn; rw [List.foldl_cons]; exact ih _ (zsn hn)
theorem zq8 (m : Mn) (h : Hb) (l : List Bt) : ∀ (n : Nat), 1 <= n -> cqO m h l = false -> (4096 < l.foldl (cqS m h) n ↔ 4096 < n * cnP m h l) /\ (n * cnP m h l <= 4096 -> l.foldl (cqS m h) n = n * cnP m h l) := by
 induction l with
 | nil => intro n hn h0; simp [cnP]
 | cons b r ih =>
  intro n hn h0;unfold cqO at h0;simp only [List.any_cons, Bool.or_eq_false_iff, decide_eq_false_iff_not] at h0;obtain ⟨h1, h2⟩ := h0
  have hp : 0 < cnP m h r := by
   clear hn ih
   induction r with
   | nil => simp [cnP]
   | cons x r ih2 =>
    simp only [List.any_cons, Bool.or_eq_false_iff, decide_eq_false_iff_not] at h2;exact Nat.mul_pos (by omega) (ih2 h2.2)
  rw [List.foldl_cons, show cnP m h (b :: r) = (frV m b h).length * cnP m h r by rw [cnP]];rw [← Nat.mul_assoc];have hb : 0 < (frV m b h).length := by omega
  by_cases hn2 : n <= 4096
  ·have e : cqS m h n b = n * (frV m b h).length := by unfold cqS; rw [if_pos ⟨hb, hn2⟩]
   rw [e];exact ih _ (Nat.mul_pos hn hb) h2
  ·have e : cqS m h n b = n := by unfold cqS; rw [if_neg (fun hh => hn2 hh.2)]
   rw [e];have i1 := ih n hn h2;have g1 : 4096 < n * cnP m h r := Nat.lt_of_lt_of_le (by omega) (Nat.le_mul_of_pos_right n hp);have g2 : 4096 < n * (frV m b h).length * cnP m h r := Nat.lt_of_lt_of_le (by omega) (Nat.le_trans (Nat.le_mul_of_pos_right n hb) (Nat.le_mul_of_pos_right _ hp));exact ⟨⟨fun _ => g2, fun _ => i1.1.2 g1⟩, fun hh => absurd hh (by omega)⟩
theorem zly {m : Mn} {h : Hb} : ∀ {l : List Bt}, cqO m h l = true -> cnP m h l = 0
 | [], hh => by simp [cqO] at hh
 | b :: r, hh => by
  unfold cqO at hh;simp only [List.any_cons, Bool.or_eq_true, decide_eq_true_eq] at hh;show (frV m b h).length * cnP m h r = 0;rcases hh with hh | hh
  ·rw [hh, Nat.zero_mul]
  ·rw [zly (l := r) hh, Nat.mul_zero]
def reQ (m : Mn) (l : List Sg) (D : List Tm) : Bool := decide (rdE m l = 0) && decide ((rdV m l).Durs = D)
theorem zpD (r : Bool) (f : Fo) : 1 <= (foS r f).length /\ (foS r f).length <= 2 := by
 unfold foS; cases f.d <;> simp
theorem znT {m : Mn} {b : Bt} {h : Hb} {f : List Sg} (hf : f ∈ frV m b h) : 1 <= f.length /\ f.length <= 2 := by
 unfold frV at hf;obtain ⟨x, -, rfl⟩ := List.mem_map.1 hf;exact zpD _ _
end Go.Rse
namespace Go.Rse
open Go Go.Proofs
def fmV (m : Mn) (b : Bt) (h : Hb) : List (List Sg) := if wcE m [b] = 0 then frV m b h else []
theorem zlz {m : Mn} {l : List Bt} {h : Hb} (c : ¬ wcE m l = 0) : wcnE m l h = wcE m l /\ wcnV m l h = 0 := by
 have e : wcnE m l h = wcE m l := by unfold wcnE; rw [if_neg c]
 exact ⟨e, by unfold wcnV; rw [e, if_neg c]⟩
theorem zlA {m : Mn} {l : List Bt} {h : Hb} (c : wcE m l = 0) (c2 : 12 < l.length) : wcnE m l h = 11 /\ wcnV m l h = 0 := by
 have e : wcnE m l h = 11 := by unfold wcnE; rw [if_pos c, if_pos c2]
 exact ⟨e, by unfold wcnV; rw [e]; rfl⟩
theorem znU {m : Mn} {l : List Bt} {h : Hb} (c : wcE m l = 0) (c2 : ¬ 12 < l.length) (c3 : 4096 < cnP m h l) : wcnE m l h = 15 /\ wcnV m l h = 0 := by
 have e : wcnE m l h = 15 := by unfold wcnE; rw [if_pos c, if_neg c2, if_pos c3]
 exact ⟨e, by unfold wcnV; rw [e]; rfl⟩
theorem znV {m : Mn} {l : List Bt} {h : Hb} (c : wcE m l = 0) (c2 : ¬ 12 < l.length) (c3 : ¬ 4096 < cnP m h l) : wcnE m l h = 0 /\ wcnV m l h = (cnP m h l : Int) := by
 have e : wcnE m l h = 0 := by unfold wcnE; rw [if_pos c, if_neg c2, if_neg c3]
 exact ⟨e, by unfold wcnV; rw [e]; rfl⟩
theorem zsp {m : Mn} {h : Hb} {l : List Bt} {k : Nat} {b : Bt} (hi : l[k]? = some b) : ((cnP m h (l.take k) : Nat) : Int) * ((frV m b h).length : Int) = ((cnP m h (l.take (k + 1)) : Nat) : Int) := by
 rw [zun hi]; simp
def rsL (l : List Sg) : List Bool := (l.filter fun s => !decide (s.Kind = 3)).map fun s => decide (s.Kind = 2)
theorem zlB {l : List Sg} {k : Nat} {s : Sg} (h : l[k]? = some s) (h3 : s.Kind = 3) : rsL (l.take k) = rsL (l.take (k + 1)) := by
 unfold rsL; rw [List.take_add_one, h]; simp [h3]
theorem znW {l : List Sg} {k : Nat} {s : Sg} (h : l[k]? = some s) (h3 : ¬ s.Kind = 3) : rsL (l.take k) ++ [decide (s.Kind = 2)] = rsL (l.take (k + 1)) := by
 unfold rsL; rw [List.take_add_one, h]; simp [h3]
theorem zlC (l : List Sg) : (rsL l).length <= l.length := by
 unfold rsL; rw [List.length_map]; exact List.length_filter_le _ _
attribute [local irreducible] Pur yw yy Ex X Fn Imp LeV LeB FnO It yz FnW FnOW FnP FnD
attribute [local irreducible] wcE btF ckT ckM ckD frV wcnE wcnV cnP durB rdE rdV rsL
theorem zhR (m : Mn) (b : Bt) (h : Hb) : Fn Tryz.prog 64 [mnA m, btA b, hbA h] (.tup [zL (fmV m b h), iv (wcE m [b])]) := by
 refine Fn.go Tryz.func64 Tryz.ntmps64 (fun g w d => ?_);refine gq ?_;refine Ex.stepA (yk (enc := btE) (l := [b]) sl22 ty76 ze76 (by decide) rfl rfl rfl rfl (by decide) (by decide) (fun _ => rfl) rfl) rfl rfl ?_;refine yb (zel m [b] (by simp)) ?_;refine gd ?_ ?_<;>intro hc1
 ·have hV : fmV m b h = [] := by unfold fmV; rw [if_neg hc1]
  apply yg;refine zk ?_;refine X.ret ?_;refine RetQ.imp (yd (ts := [(6, zL []), (7, iv (wcE m [b]))]) (hs := [])) ?_;refine yj ?_ ?_;all_goals (first | (rw [hV]; done) | rfl)
 have h0 : wcE m [b] = 0 := by omega
 have hV : fmV m b h = frV m b h := by unfold fmV; rw [if_pos h0]
 refine gq ?_;refine yb (zen m b h) ?_;refine gq ?_;refine yj ?_ ?_;all_goals (first | exact congrArg (fun z => zL z) hV.symm | exact congrArg (AV.int .i64) h0.symm)
set_option maxHeartbeats 1000000 in
theorem zem (m : Mn) (l : List Bt) (h : Hb) (hl : l.length <= 4000000000) : Fn Tryz.prog 45 [mnA m, btsA l, hbA h] (.tup [iv (wcnV m l h), iv (wcnE m l h)]) := by
 have hp0 : (1 : Int) = ((cnP m h (l.take 0) : Nat) : Int) := by unfold cnP; rfl
 refine Fn.go Tryz.func45 Tryz.ntmps45 (fun g w d => ?_);refine gq ?_;refine yb (zel m l hl) ?_;refine gd ?_ ?_<;>intro hc1
 ·have hZ1 := zlz (h := h) hc1;obtain ⟨hE, hV⟩ := hZ1;refine gq ?_;refine yj ?_ ?_;all_goals (first | (rw [hV]; done) | (rw [hE]; done) | (rw [hV, htk]; done))
 have h0 : wcE m l = 0 := by omega
 refine gd ?_ ?_<;>intro hc2
 ·have hZ2 := zlA (h := h) h0 (by omega);obtain ⟨hE, hV⟩ := hZ2;refine gq ?_;refine yj ?_ ?_;all_goals (first | (rw [hV]; done) | (rw [hE]; done) | (rw [hV, htk]; done))
 have h12 : ¬ 12 < l.length := by omega
 refine gq ?_
 refine yZ (ι := Nat) (fun (k : Nat) => [(3, .ptr 3 0 0 0), (5, .ptr 5 0 0 0), (9, iv ((cnP m h (l.take k) : Nat) : Int)), (21, btsA l), (22, iv (l.length : Int)), (23, iv (k : Int))]) (fun (k : Nat) => [(3, .box (mnE m) 32), (5, .box (hbE h) 35)]) (fun (k : Nat) => k <= l.length) (fun (k : Nat) => l.length - k) 0 (fun k hk => ?_) (h0 := by
  exact yf)
 refine gd ?_ ?_<;>intro hc3
 ·obtain ⟨b, hb⟩ : ∃ b, l[k]? = some b := ⟨_, lgg (by omega)⟩;have hb2 : l[(k : Int).toNat]? = some b := by simpa using hb
  have hs := zsp (m := m) (h := h) hb;have hq := zsm (m := m) (h := h) (l := l) (by omega) (k + 1);have hf := zfb m b h;refine gq ?_;refine yb (zen m b h) ?_;refine gq ?_;refine yD (k + 1) (hI := yf)
 ·obtain rfl : k = l.length := by omega
  have htk : cnP m h (l.take l.length) = cnP m h l := by rw [List.take_length]
  refine gd ?_ ?_<;>intro hc4
  ·have hZ3 := znU (h := h) h0 h12 (by omega);obtain ⟨hE, hV⟩ := hZ3;refine gq ?_;refine yj ?_ ?_;all_goals (first | (rw [hV]; done) | (rw [hE]; done) | (rw [hV, htk]; done))
  have hZ4 := znV (h := h) h0 h12 (by omega);obtain ⟨hE, hV⟩ := hZ4;refine gq ?_;refine yj ?_ ?_;all_goals (first | (rw [hV]; done) | (rw [hE]; done) | (rw [hV, htk]; done))
end Go.Rse
namespace Go.Rse
open Go Go.Proofs
instance : ZcK Tryz.prog 264 [.nilf, .int .i64 0, .int .i64 0] := ⟨⟨_, zvX, rfl⟩⟩
attribute [local irreducible] Pur yw yy Ex X Fn Imp LeV LeB FnO It yz FnW FnOW
theorem zha {L A : List Int} {j : Nat} {c : Int} (hj : L[j]? = some c) (hc : c ∈ A) (h : ∀ i : Nat, i < j -> ∀ d, L[i]? = some d -> d ∉ A) : L.find? (fun c => decide (c ∈ A)) = some c := by
 rw [List.find?_eq_some_iff_append];refine ⟨by simpa using hc, L.take j, L.drop (j + 1), ?_, fun a ha => ?_⟩
 ·have hl := (List.getElem?_eq_some_iff.1 hj);rw [← hl.2, List.getElem_cons_drop, List.take_append_drop]
 ·obtain ⟨i, hi, e⟩ := List.getElem_of_mem ha;rw [List.length_take] at hi;have := h i (by omega) a (by rw [← e, List.getElem_take, lgg]);simpa using this
theorem zfe {L A : List Int} (h : ∀ i : Nat, i < L.length -> ∀ d, L[i]? = some d -> d ∉ A) : L.find? (fun c => decide (c ∈ A)) = none := by
 rw [List.find?_eq_none];intro c hc;obtain ⟨i, hi, e⟩ := List.getElem_of_mem hc;have := h i hi c (by rw [← e, lgg]);simpa using this
theorem zff {L A : List Int} {j : Nat} {c : Int} (hj : L[j]? = some c) (hc : c ∉ A) (h : ∀ i : Nat, i < j -> ∀ d, L[i]? = some d -> d ∉ A) : ∀ i : Nat, i < j + 1 -> ∀ d, L[i]? = some d -> d ∉ A := by
 intro i hi d hd;by_cases e : i = j
 ·subst e; rw [hj] at hd; injection hd with hd; subst hd; exact hc
 ·exact h i (by omega) d hd
theorem znX (p : Int -> Bool) (a : Int) : [a, a].find? p = [a].find? p := by
 simp only [List.find?]; cases p a <;> rfl
theorem zbf (s : Sgm) (n : Int) (hN : 0 <= s.Count.N) : Fn Tryz.prog 233 [smA s, .ept (fun _ : Unit => [iv n]) () 0] (.bool (decide (s.Count.N % 3 = n))) := by
 refine Fn.go Tryz.func233 Tryz.ntmps233 (fun g w d => ?_);refine gq ?_;all_goals (first | rfl | (simp_all; done))
theorem zb0 (n : Int) : Fn Tryz.prog 232 [iv n] (.fn 233 [.ept (fun _ : Unit => [iv n]) () 0]) := by
 refine Fn.go Tryz.func232 Tryz.ntmps232 (fun g w d => ?_);apply yg;refine zbE ?_;refine ya ?_;apply yK;refine zq ?_;refine X.ret ?_;refine RetQ.imp (yS (k := 1) rfl rfl) ?_;refine gq ?_;all_goals (first | rfl | (simp_all; done))
theorem zhb (s : Sgm) : Fn Tryz.prog 234 [smA s] (.bool s.Free) := by
 refine Fn.go Tryz.func234 Tryz.ntmps234 (fun g w d => ?_);refine gq ?_;all_goals (first | rfl | (simp_all; done))
theorem zhc (s : Sgm) : Fn Tryz.prog 235 [smA s] (.bool (decide (s.Count.N = 2))) := by
 refine Fn.go Tryz.func235 Tryz.ntmps235 (fun g w d => ?_);refine gq ?_;all_goals (first | rfl | (simp_all; done))
theorem zja  : Fn Tryz.prog 210 [] (.agg [.fn 234 [], iv 1, iv 0, .fn 233 [.ept (fun _ : Unit => [iv 0]) () 0], iv 0, iv 0, .fn 233 [.ept (fun _ : Unit => [iv 1]) () 0], iv 1, iv 2, .fn 235 [], iv 4, iv 3, .fn 233 [.ept (fun _ : Unit => [iv 2]) () 0], iv 3, iv 4]) := by
 refine Fn.go Tryz.func210 Tryz.ntmps210 (fun g w d => ?_);refine gq ?_;refine yb (zb0 0) ?_;refine gq ?_;refine yb (zb0 1) ?_;refine gq ?_;refine yb (zb0 2) ?_;refine gq ?_;refine RetQ.ret (.one (.cellA rfl rfl rfl rfl zrx (LeV.eq ?_)));all_goals (first | rfl | (simp_all; done))
attribute [local irreducible] chF wnL
set_option maxHeartbeats 2000000 in
theorem zhS (s : Sgm) (A : List Int) (hN : 0 <= s.Count.N) (hA : A.length <= 1000000) : Fn Tryz.prog 177 [smA s, ye A] (.tup [iv ((chF s A).getD 0), .bool (chF s A).isSome]) := by
 refine Fn.go Tryz.func177 Tryz.ntmps177 (fun g w d => ?_);refine gq ?_;refine yb zja ?_;refine gq ?_
 refine yZ (ι := Nat) (fun (n : Nat) => [(1, ye A), (2, .ptr 2 0 0 0), (4, iv 0), (5, .bool false), (10, .agg [.fn 234 [], iv 1, iv 0, .fn 233 [.ept (fun _ : Unit => [iv 0]) () 0], iv 0, iv 0, .fn 233 [.ept (fun _ : Unit => [iv 1]) () 0], iv 1, iv 2, .fn 235 [], iv 4, iv 3, .fn 233 [.ept (fun _ : Unit => [iv 2]) () 0], iv 3, iv 4]), (11, iv (n : Int))]) (fun (n : Nat) => [(2, .box (smE s) 232)]) (fun (n : Nat) => n <= 5 /\ (1 <= n -> ¬ s.Free = true) /\ (2 <= n -> ¬ s.Count.N % 3 = 0) /\ (3 <= n -> ¬ s.Count.N % 3 = 1) /\ (4 <= n -> ¬ s.Count.N = 2) /\ (5 <= n -> ¬ s.Count.N % 3 = 2)) (fun (n : Nat) => 5 - n) 0 (fun n hk => ?_) (hJ := by
  exact ⟨by omega, by omega, by omega, by omega, by omega, by omega⟩)
 obtain ⟨hk1, hk2, hk3, hk4, hk5, hk6⟩ := hk;refine gd ?_ ?_<;>intro hc1
 ·apply yr;apply yn;apply X.block;apply yn;obtain hn | hn | hn | hn | hn : n = 0 \/ n = 1 \/ n = 2 \/ n = 3 \/ n = 4 := by omega
  ·have hpt : (([.fn 234 [], iv 1, iv 0, .fn 233 [.ept (fun _ : Unit => [iv 0]) () 0], iv 0, iv 0, .fn 233 [.ept (fun _ : Unit => [iv 1]) () 0], iv 1, iv 2, .fn 235 [], iv 4, iv 3, .fn 233 [.ept (fun _ : Unit => [iv 2]) () 0], iv 3, iv 4] : List AV).drop (((n : Nat) : Int).toNat * 3)).take 3 = [.fn 234 [], iv 1, iv 0] := by rw [hn]; rfl
   apply yo;refine ya (hs := by exact zx ArK.h TyK.h rfl rfl (by omega) (by omega) hpt) ?_;refine gq ?_;refine yb (zhb s) ?_;refine gd ?_ ?_<;>intro hc2
   ·have hx0 : ¬ s.Free = true := by first | exact hc2 | (rw [hc2]; decide) | (simp at hc2; simp [hc2]; done) | omega
    refine gq ?_
    refine yD (n + 1) (hJ := by
     refine ⟨by omega, ?_, ?_, ?_, ?_, ?_⟩ <;> intro h6 <;> first | assumption | (exact absurd h6 (by omega)) | (exact hk2 (by omega)) | (exact hk3 (by omega)) | (exact hk4 (by omega)) | (exact hk5 (by omega)) | (exact hk6 (by omega)))
   have hy : s.Free = true := by first | exact hc2 | (simp at hc2; exact hc2) | omega
   have hW : (wnL s).find? (fun c => decide (c ∈ A)) = [(1 : Int), 0].find? (fun c => decide (c ∈ A)) := by
    have h0 := hk2;rw [show wnL s = [1, 0] by unfold wnL; simp_all]
   refine gq ?_;refine yL intE [_, _] ?_;refine gq ?_
   refine yZ (ι := Nat) (fun (j : Nat) => [(1, ye A), (2, .ptr 2 0 0 0), (4, iv 0), (5, .bool false), (10, .agg [.fn 234 [], iv 1, iv 0, .fn 233 [.ept (fun _ : Unit => [iv 0]) () 0], iv 0, iv 0, .fn 233 [.ept (fun _ : Unit => [iv 1]) () 0], iv 1, iv 2, .fn 235 [], iv 4, iv 3, .fn 233 [.ept (fun _ : Unit => [iv 2]) () 0], iv 3, iv 4]), (11, iv (n : Int)), (23, .own 23), (24, iv 2), (25, iv (j : Int))]) (fun (j : Nat) => [(2, .box (smE s) 232), (23, .row intE [1, 0] 3 1)]) (fun (j : Nat) => j <= 2 /\ ∀ i : Nat, i < j -> ∀ d, ([1, 0] : List Int)[i]? = some d -> d ∉ A) (fun (j : Nat) => 2 - j) 0 (fun j hk => ?_) (hJ := by
    exact ⟨by omega, fun i hi => absurd hi (by omega)⟩)
   obtain ⟨hj1, hj2⟩ := hk;refine gd ?_ ?_<;>intro hc3
   ·obtain ⟨x, hx⟩ : ∃ x, ([1, 0] : List Int)[j]? = some x := ⟨_, lgg (by simp; omega)⟩;have hx2 : ([1, 0] : List Int)[(j : Int).toNat]? = some x := by simpa using hx
    refine gq ?_;refine yb (yJ A x (by omega)) ?_;refine gd ?_ ?_<;>intro hc4
    ·have hE : chF s A = some x := by unfold chF; rw [hW]; exact zha hx (by simpa using hc4) hj2
     refine gq ?_;refine yj ?_ ?_;all_goals (rw [hE]; rfl)
    refine gq ?_
    refine yD (j + 1) (hJ := by
     exact ⟨by omega, zff hx (by simpa using hc4) hj2⟩)
   ·have hj3 : j = 2 := by omega
    subst hj3;have hE : chF s A = none := by unfold chF; rw [hW]; exact zfe hj2
    refine gq ?_;refine yj ?_ ?_;all_goals (rw [hE]; rfl)
  ·have hpt : (([.fn 234 [], iv 1, iv 0, .fn 233 [.ept (fun _ : Unit => [iv 0]) () 0], iv 0, iv 0, .fn 233 [.ept (fun _ : Unit => [iv 1]) () 0], iv 1, iv 2, .fn 235 [], iv 4, iv 3, .fn 233 [.ept (fun _ : Unit => [iv 2]) () 0], iv 3, iv 4] : List AV).drop (((n : Nat) : Int).toNat * 3)).take 3 = [.fn 233 [.ept (fun _ : Unit => [iv 0]) () 0], iv 0, iv 0] := by rw [hn]; rfl
   apply yo;refine ya (hs := by exact zx ArK.h TyK.h rfl rfl (by omega) (by omega) hpt) ?_;refine gq ?_;refine yb (zbf s 0 hN) ?_;refine gd ?_ ?_<;>intro hc5
   ·have hx1 : ¬ s.Count.N % 3 = 0 := by first | exact hc5 | (rw [hc5]; decide) | (simp at hc5; simp [hc5]; done) | omega
    refine gq ?_
    refine yD (n + 1) (hJ := by
     refine ⟨by omega, ?_, ?_, ?_, ?_, ?_⟩ <;> intro h6 <;> first | assumption | (exact absurd h6 (by omega)) | (exact hk2 (by omega)) | (exact hk3 (by omega)) | (exact hk4 (by omega)) | (exact hk5 (by omega)) | (exact hk6 (by omega)))
   have hy : s.Count.N % 3 = 0 := by first | exact hc5 | (simp at hc5; exact hc5) | omega
   have hW : (wnL s).find? (fun c => decide (c ∈ A)) = [(0 : Int), 0].find? (fun c => decide (c ∈ A)) := by
    have h0 := hk2;rw [znX, show wnL s = [0] by unfold wnL; simp_all]
   refine gq ?_;refine yL intE [_, _] ?_;refine gq ?_
   refine yZ (ι := Nat) (fun (j : Nat) => [(1, ye A), (2, .ptr 2 0 0 0), (4, iv 0), (5, .bool false), (10, .agg [.fn 234 [], iv 1, iv 0, .fn 233 [.ept (fun _ : Unit => [iv 0]) () 0], iv 0, iv 0, .fn 233 [.ept (fun _ : Unit => [iv 1]) () 0], iv 1, iv 2, .fn 235 [], iv 4, iv 3, .fn 233 [.ept (fun _ : Unit => [iv 2]) () 0], iv 3, iv 4]), (11, iv (n : Int)), (23, .own 23), (24, iv 2), (25, iv (j : Int))]) (fun (j : Nat) => [(2, .box (smE s) 232), (23, .row intE [0, 0] 3 1)]) (fun (j : Nat) => j <= 2 /\ ∀ i : Nat, i < j -> ∀ d, ([0, 0] : List Int)[i]? = some d -> d ∉ A) (fun (j : Nat) => 2 - j) 0 (fun j hk => ?_) (hJ := by
    exact ⟨by omega, fun i hi => absurd hi (by omega)⟩)
   obtain ⟨hj1, hj2⟩ := hk;refine gd ?_ ?_<;>intro hc6
   ·obtain ⟨x, hx⟩ : ∃ x, ([0, 0] : List Int)[j]? = some x := ⟨_, lgg (by simp; omega)⟩;have hx2 : ([0, 0] : List Int)[(j : Int).toNat]? = some x := by simpa using hx
    refine gq ?_;refine yb (yJ A x (by omega)) ?_;refine gd ?_ ?_<;>intro hc7
    ·have hE : chF s A = some x := by unfold chF; rw [hW]; exact zha hx (by simpa using hc7) hj2
     refine gq ?_;refine yj ?_ ?_;all_goals (rw [hE]; rfl)
    refine gq ?_
    refine yD (j + 1) (hJ := by
     exact ⟨by omega, zff hx (by simpa using hc7) hj2⟩)
   ·have hj3 : j = 2 := by omega
    subst hj3;have hE : chF s A = none := by unfold chF; rw [hW]; exact zfe hj2
    refine gq ?_;refine yj ?_ ?_;all_goals (rw [hE]; rfl)
  ·have hpt : (([.fn 234 [], iv 1, iv 0, .fn 233 [.ept (fun _ : Unit => [iv 0]) () 0], iv 0, iv 0, .fn 233 [.ept (fun _ : Unit => [iv 1]) () 0], iv 1, iv 2, .fn 235 [], iv 4, iv 3, .fn 233 [.ept (fun _ : Unit => [iv 2]) () 0], iv 3, iv 4] : List AV).drop (((n : Nat) : Int).toNat * 3)).take 3 = [.fn 233 [.ept (fun _ : Unit => [iv 1]) () 0], iv 1, iv 2] := by rw [hn]; rfl
   apply yo;refine ya (hs := by exact zx ArK.h TyK.h rfl rfl (by omega) (by omega) hpt) ?_;refine gq ?_;refine yb (zbf s 1 hN) ?_;refine gd ?_ ?_<;>intro hc8
   ·have hx2 : ¬ s.Count.N % 3 = 1 := by first | exact hc8 | (rw [hc8]; decide) | (simp at hc8; simp [hc8]; done) | omega
    refine gq ?_
    refine yD (n + 1) (hJ := by
     refine ⟨by omega, ?_, ?_, ?_, ?_, ?_⟩ <;> intro h6 <;> first | assumption | (exact absurd h6 (by omega)) | (exact hk2 (by omega)) | (exact hk3 (by omega)) | (exact hk4 (by omega)) | (exact hk5 (by omega)) | (exact hk6 (by omega)))
   have hy : s.Count.N % 3 = 1 := by first | exact hc8 | (simp at hc8; exact hc8) | omega
   have hW : (wnL s).find? (fun c => decide (c ∈ A)) = [(1 : Int), 2].find? (fun c => decide (c ∈ A)) := by
    have h0 := hk2;rw [show wnL s = [1, 2] by unfold wnL; simp_all]
   refine gq ?_;refine yL intE [_, _] ?_;refine gq ?_
   refine yZ (ι := Nat) (fun (j : Nat) => [(1, ye A), (2, .ptr 2 0 0 0), (4, iv 0), (5, .bool false), (10, .agg [.fn 234 [], iv 1, iv 0, .fn 233 [.ept (fun _ : Unit => [iv 0]) () 0], iv 0, iv 0, .fn 233 [.ept (fun _ : Unit => [iv 1]) () 0], iv 1, iv 2, .fn 235 [], iv 4, iv 3, .fn 233 [.ept (fun _ : Unit => [iv 2]) () 0], iv 3, iv 4]), (11, iv (n : Int)), (23, .own 23), (24, iv 2), (25, iv (j : Int))]) (fun (j : Nat) => [(2, .box (smE s) 232), (23, .row intE [1, 2] 3 1)]) (fun (j : Nat) => j <= 2 /\ ∀ i : Nat, i < j -> ∀ d, ([1, 2] : List Int)[i]? = some d -> d ∉ A) (fun (j : Nat) => 2 - j) 0 (fun j hk => ?_) (hJ := by
    exact ⟨by omega, fun i hi => absurd hi (by omega)⟩)
   obtain ⟨hj1, hj2⟩ := hk;refine gd ?_ ?_<;>intro hc9
   ·obtain ⟨x, hx⟩ : ∃ x, ([1, 2] : List Int)[j]? = some x := ⟨_, lgg (by simp; omega)⟩;have hx2 : ([1, 2] : List Int)[(j : Int).toNat]? = some x := by simpa using hx
    refine gq ?_;refine yb (yJ A x (by omega)) ?_;refine gd ?_ ?_<;>intro hc10
    ·have hE : chF s A = some x := by unfold chF; rw [hW]; exact zha hx (by simpa using hc10) hj2
     refine gq ?_;refine yj ?_ ?_;all_goals (rw [hE]; rfl)
    refine gq ?_
    refine yD (j + 1) (hJ := by
     exact ⟨by omega, zff hx (by simpa using hc10) hj2⟩)
   ·have hj3 : j = 2 := by omega
    subst hj3;have hE : chF s A = none := by unfold chF; rw [hW]; exact zfe hj2
    refine gq ?_;refine yj ?_ ?_;all_goals (rw [hE]; rfl)
  ·have hpt : (([.fn 234 [], iv 1, iv 0, .fn 233 [.ept (fun _ : Unit => [iv 0]) () 0], iv 0, iv 0, .fn 233 [.ept (fun _ : Unit => [iv 1]) () 0], iv 1, iv 2, .fn 235 [], iv 4, iv 3, .fn 233 [.ept (fun _ : Unit => [iv 2]) () 0], iv 3, iv 4] : List AV).drop (((n : Nat) : Int).toNat * 3)).take 3 = [.fn 235 [], iv 4, iv 3] := by rw [hn]; rfl
   apply yo;refine ya (hs := by exact zx ArK.h TyK.h rfl rfl (by omega) (by omega) hpt) ?_;refine gq ?_;refine yb (zhc s) ?_;refine gd ?_ ?_<;>intro hc11
   ·have hx3 : ¬ s.Count.N = 2 := by first | exact hc11 | (rw [hc11]; decide) | (simp at hc11; simp [hc11]; done) | omega
    refine gq ?_
    refine yD (n + 1) (hJ := by
     refine ⟨by omega, ?_, ?_, ?_, ?_, ?_⟩ <;> intro h6 <;> first | assumption | (exact absurd h6 (by omega)) | (exact hk2 (by omega)) | (exact hk3 (by omega)) | (exact hk4 (by omega)) | (exact hk5 (by omega)) | (exact hk6 (by omega)))
   have hy : s.Count.N = 2 := by first | exact hc11 | (simp at hc11; exact hc11) | omega
   have hW : (wnL s).find? (fun c => decide (c ∈ A)) = [(4 : Int), 3].find? (fun c => decide (c ∈ A)) := by
    have h0 := hk2;rw [show wnL s = [4, 3] by unfold wnL; simp_all]
   refine gq ?_;refine yL intE [_, _] ?_;refine gq ?_
   refine yZ (ι := Nat) (fun (j : Nat) => [(1, ye A), (2, .ptr 2 0 0 0), (4, iv 0), (5, .bool false), (10, .agg [.fn 234 [], iv 1, iv 0, .fn 233 [.ept (fun _ : Unit => [iv 0]) () 0], iv 0, iv 0, .fn 233 [.ept (fun _ : Unit => [iv 1]) () 0], iv 1, iv 2, .fn 235 [], iv 4, iv 3, .fn 233 [.ept (fun _ : Unit => [iv 2]) () 0], iv 3, iv 4]), (11, iv (n : Int)), (23, .own 23), (24, iv 2), (25, iv (j : Int))]) (fun (j : Nat) => [(2, .box (smE s) 232), (23, .row intE [4, 3] 3 1)]) (fun (j : Nat) => j <= 2 /\ ∀ i : Nat, i < j -> ∀ d, ([4, 3] : List Int)[i]? = some d -> d ∉ A) (fun (j : Nat) => 2 - j) 0 (fun j hk => ?_) (hJ := by
    exact ⟨by omega, fun i hi => absurd hi (by omega)⟩)
   obtain ⟨hj1, hj2⟩ := hk;refine gd ?_ ?_<;>intro hc12
   ·obtain ⟨x, hx⟩ : ∃ x, ([4, 3] : List Int)[j]? = some x := ⟨_, lgg (by simp; omega)⟩;have hx2 : ([4, 3] : List Int)[(j : Int).toNat]? = some x := by simpa using hx
    refine gq ?_;refine yb (yJ A x (by omega)) ?_;refine gd ?_ ?_<;>intro hc13
    ·have hE : chF s A = some x := by unfold chF; rw [hW]; exact zha hx (by simpa using hc13) hj2
     refine gq ?_;refine yj ?_ ?_;all_goals (rw [hE]; rfl)
    refine gq ?_
    refine yD (j + 1) (hJ := by
     exact ⟨by omega, zff hx (by simpa using hc13) hj2⟩)
   ·have hj3 : j = 2 := by omega
    subst hj3;have hE : chF s A = none := by unfold chF; rw [hW]; exact zfe hj2
    refine gq ?_;refine yj ?_ ?_;all_goals (rw [hE]; rfl)
  ·have hpt : (([.fn 234 [], iv 1, iv 0, .fn 233 [.ept (fun _ : Unit => [iv 0]) () 0], iv 0, iv 0, .fn 233 [.ept (fun _ : Unit => [iv 1]) () 0], iv 1, iv 2, .fn 235 [], iv 4, iv 3, .fn 233 [.ept (fun _ : Unit => [iv 2]) () 0], iv 3, iv 4] : List AV).drop (((n : Nat) : Int).toNat * 3)).take 3 = [.fn 233 [.ept (fun _ : Unit => [iv 2]) () 0], iv 3, iv 4] := by rw [hn]; rfl
   apply yo;refine ya (hs := by exact zx ArK.h TyK.h rfl rfl (by omega) (by omega) hpt) ?_;refine gq ?_;refine yb (zbf s 2 hN) ?_;refine gd ?_ ?_<;>intro hc14
   ·have hx4 : ¬ s.Count.N % 3 = 2 := by first | exact hc14 | (rw [hc14]; decide) | (simp at hc14; simp [hc14]; done) | omega
    refine gq ?_
    refine yD (n + 1) (hJ := by
     refine ⟨by omega, ?_, ?_, ?_, ?_, ?_⟩ <;> intro h6 <;> first | assumption | (exact absurd h6 (by omega)) | (exact hk2 (by omega)) | (exact hk3 (by omega)) | (exact hk4 (by omega)) | (exact hk5 (by omega)) | (exact hk6 (by omega)))
   have hy : s.Count.N % 3 = 2 := by first | exact hc14 | (simp at hc14; exact hc14) | omega
   have hW : (wnL s).find? (fun c => decide (c ∈ A)) = [(3 : Int), 4].find? (fun c => decide (c ∈ A)) := by
    have h0 := hk2;rw [show wnL s = [3, 4] by unfold wnL; simp_all]
   refine gq ?_;refine yL intE [_, _] ?_;refine gq ?_
   refine yZ (ι := Nat) (fun (j : Nat) => [(1, ye A), (2, .ptr 2 0 0 0), (4, iv 0), (5, .bool false), (10, .agg [.fn 234 [], iv 1, iv 0, .fn 233 [.ept (fun _ : Unit => [iv 0]) () 0], iv 0, iv 0, .fn 233 [.ept (fun _ : Unit => [iv 1]) () 0], iv 1, iv 2, .fn 235 [], iv 4, iv 3, .fn 233 [.ept (fun _ : Unit => [iv 2]) () 0], iv 3, iv 4]), (11, iv (n : Int)), (23, .own 23), (24, iv 2), (25, iv (j : Int))]) (fun (j : Nat) => [(2, .box (smE s) 232), (23, .row intE [3, 4] 3 1)]) (fun (j : Nat) => j <= 2 /\ ∀ i : Nat, i < j -> ∀ d, ([3, 4] : List Int)[i]? = some d -> d ∉ A) (fun (j : Nat) => 2 - j) 0 (fun j hk => ?_) (hJ := by
    exact ⟨by omega, fun i hi => absurd hi (by omega)⟩)
   obtain ⟨hj1, hj2⟩ := hk;refine gd ?_ ?_<;>intro hc15
   ·obtain ⟨x, hx⟩ : ∃ x, ([3, 4] : List Int)[j]? = some x := ⟨_, lgg (by simp; omega)⟩;have hx2 : ([3, 4] : List Int)[(j : Int).toNat]? = some x := by simpa using hx
    refine gq ?_;refine yb (yJ A x (by omega)) ?_;refine gd ?_ ?_<;>intro hc16
    ·have hE : chF s A = some x := by unfold chF; rw [hW]; exact zha hx (by simpa using hc16) hj2
     refine gq ?_;refine yj ?_ ?_;all_goals (rw [hE]; rfl)
    refine gq ?_
    refine yD (j + 1) (hJ := by
     exact ⟨by omega, zff hx (by simpa using hc16) hj2⟩)
   ·have hj3 : j = 2 := by omega
    subst hj3;have hE : chF s A = none := by unfold chF; rw [hW]; exact zfe hj2
    refine gq ?_;refine yj ?_ ?_;all_goals (rw [hE]; rfl)
 ·exfalso; have a := hk3 (by omega); have b := hk4 (by omega); have c := hk6 (by omega); omega
end Go.Rse
