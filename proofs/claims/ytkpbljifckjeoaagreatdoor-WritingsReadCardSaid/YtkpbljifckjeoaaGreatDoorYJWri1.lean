/-
  Plain.
-/
import Derived.Test.YtkpbljifckjeoaaGreatDoorYJLev6
set_option linter.unusedSimpArgs false
set_option linter.unusedVariables false
namespace Go.Rse
open Go Go.Proofs
section
def cnP (m : Mn) (h : Hb) : List Bt -> Nat
 | [] => 1
 | b :: r => (frV m b h).length * cnP m h r
theorem zj2 (m : Mn) (h : Hb) (b : Bt) : ∀ l, cnP m h (l ++ [b]) = cnP m h l * (frV m b h).length
 | [] => by simp [cnP]
 | x :: r => by
  show (frV m x h).length * cnP m h (r ++ [b]) = (frV m x h).length * cnP m h r * _;rw [zj2 m h b r, Nat.mul_assoc]
theorem zuO {m : Mn} {h : Hb} {l : List Bt} {i : Nat} {b : Bt} (hi : l[i]? = some b) : cnP m h (l.take (i + 1)) = cnP m h (l.take i) * (frV m b h).length := by
 rw [List.take_add_one, hi]; exact zj2 m h b _
theorem zn8 (m : Mn) (h : Hb) : ∀ l, cnP m h l <= 32 ^ l.length
 | [] => Nat.le_refl _
 | b :: r => by
  have h1 := zdY m b h;have h2 := zn8 m h r;show (frV m b h).length * cnP m h r <= 32 ^ (r.length + 1);rw [Nat.pow_succ, Nat.mul_comm];exact Nat.mul_le_mul h2 h1
theorem zsA {m : Mn} {h : Hb} {l : List Bt} (hl : l.length <= 12) (i : Nat) : cnP m h (l.take i) <= 1152921504606846976 := by
 refine Nat.le_trans (zn8 m h _) ?_;rw [show 1152921504606846976 = 32 ^ 12 by decide];exact Nat.pow_le_pow_right (by decide) (by rw [List.length_take]; omega)
def wcnE (m : Mn) (l : List Bt) (h : Hb) : Int := if wcE m l = 0 then (if 12 < l.length then 11 else if 4096 < cnP m h l then 15 else 0) else wcE m l
def wcnV (m : Mn) (l : List Bt) (h : Hb) : Int := if wcnE m l h = 0 then (cnP m h l : Int) else 0
def cqO (m : Mn) (h : Hb) (l : List Bt) : Bool := l.any fun b => decide ((frV m b h).length = 0)
def cqS (m : Mn) (h : Hb) (n : Nat) (b : Bt) : Nat := if 0 < (frV m b h).length /\ n <= 4096 then n * (frV m b h).length else n
def cqN (m : Mn) (h : Hb) (l : List Bt) : Nat := l.foldl (cqS m h) 1
theorem zuP {m : Mn} {h : Hb} {l : List Bt} {i : Nat} {b : Bt} (hi : l[i]? = some b) : cqO m h (l.take (i + 1)) = (cqO m h (l.take i) || decide ((frV m b h).length = 0)) := by
 unfold cqO; rw [List.take_add_one, hi]; simp
theorem zuQ {m : Mn} {h : Hb} {l : List Bt} {i : Nat} {b : Bt} (hi : l[i]? = some b) : cqN m h (l.take (i + 1)) = cqS m h (cqN m h (l.take i)) b := by
 unfold cqN; rw [List.take_add_one, hi]; simp
theorem zsB {m : Mn} {h : Hb} {b : Bt} {n : Nat} (hn : n <= 131072) : cqS m h n b <= 131072 := by
 have h1 := zdY m b h;unfold cqS;generalize (frV m b h).length = k at h1 ⊢;by_cases hh : 0 < k /\ n <= 4096
 ·rw [if_pos hh];have h2 : n * k <= 4096 * k := Nat.mul_le_mul_right k hh.2;omega
 ·rw [if_neg hh]; exact hn
attribute [local irreducible] cqS frV
theorem zsC (m : Mn) (h : Hb) (l : List Bt) : ∀ (n : Nat), n <= 131072 -> l.foldl (cqS m h) n <= 131072 := by
 induction l with
 | nil => intro n hn; exact hn
 | cons b r ih => intro n hn; rw [List.foldl_cons]; exact ih _ (zsB hn)
theorem zru (m : Mn) (h : Hb) (l : List Bt) : ∀ (n : Nat), 1 <= n -> cqO m h l = false -> (4096 < l.foldl (cqS m h) n ↔ 4096 < n * cnP m h l) /\ (n * cnP m h l <= 4096 -> l.foldl (cqS m h) n = n * cnP m h l) := by
 induction l with
 | nil => intro n hn h0; simp [cnP]
 | cons b r ih =>
  intro n hn h0;unfold cqO at h0;simp only [List.any_cons, Bool.or_eq_false_iff, decide_eq_false_iff_not] at h0;obtain ⟨h1, h2⟩ := h0
  have hp : 0 < cnP m h r := by
   clear hn ih
   induction r with
   | nil => simp [cnP]
   | cons x r ih2 =>
    simp only [List.any_cons, Bool.or_eq_false_iff, decide_eq_false_iff_not] at h2;exact Nat.mul_pos (by omega) (ih2 h2.2)
  rw [List.foldl_cons, show cnP m h (b :: r) = (frV m b h).length * cnP m h r by rw [cnP]];rw [← Nat.mul_assoc];have hb : 0 < (frV m b h).length := by omega
  by_cases hn2 : n <= 4096
  ·have e : cqS m h n b = n * (frV m b h).length := by unfold cqS; rw [if_pos ⟨hb, hn2⟩]
   rw [e];exact ih _ (Nat.mul_pos hn hb) h2
  ·have e : cqS m h n b = n := by unfold cqS; rw [if_neg (fun hh => hn2 hh.2)]
   rw [e];have i1 := ih n hn h2;have g1 : 4096 < n * cnP m h r := Nat.lt_of_lt_of_le (by omega) (Nat.le_mul_of_pos_right n hp);have g2 : 4096 < n * (frV m b h).length * cnP m h r := Nat.lt_of_lt_of_le (by omega) (Nat.le_trans (Nat.le_mul_of_pos_right n hb) (Nat.le_mul_of_pos_right _ hp));exact ⟨⟨fun _ => g2, fun _ => i1.1.2 g1⟩, fun hh => absurd hh (by omega)⟩
theorem zlT {m : Mn} {h : Hb} : ∀ {l : List Bt}, cqO m h l = true -> cnP m h l = 0
 | [], hh => by simp [cqO] at hh
 | b :: r, hh => by
  unfold cqO at hh;simp only [List.any_cons, Bool.or_eq_true, decide_eq_true_eq] at hh;show (frV m b h).length * cnP m h r = 0;rcases hh with hh | hh
  ·rw [hh, Nat.zero_mul]
  ·rw [zlT (l := r) hh, Nat.mul_zero]
def reQ (m : Mn) (l : List Sg) (D : List Tm) : Bool := decide (rdE m l = 0) && decide ((rdV m l).Durs = D)
def srV (m : Mn) (D : List Tm) : List (List (List Sg)) -> List Sg -> Option (List Sg)
 | [], run => if reQ m run D then some run else none
 | F :: r, run => F.findSome? fun f => srV m D r (run ++ f)
theorem zrv {m : Mn} {D : List Tm} {r : List (List (List Sg))} {run : List Sg} {F : List (List Sg)} {i : Nat} {f : List Sg} (hi : F[i]? = some f) (h0 : (F.take i).findSome? (fun f => srV m D r (run ++ f)) = none) : (F.take (i + 1)).findSome? (fun f => srV m D r (run ++ f)) = srV m D r (run ++ f) := by
 rw [List.take_add_one, hi, List.findSome?_append, h0];simp
theorem zn9 {m : Mn} {D : List Tm} {r : List (List (List Sg))} {run : List Sg} {F : List (List Sg)} {i : Nat} {x : List Sg} (h : (F.take i).findSome? (fun f => srV m D r (run ++ f)) = some x) : srV m D (F :: r) run = some x := by
 show F.findSome? (fun f => srV m D r (run ++ f)) = some x;conv => lhs; rw [← List.take_append_drop i F]
 rw [List.findSome?_append, h]; rfl
theorem zlU {m : Mn} {D : List Tm} : ∀ {C : List (List (List Sg))} {run x : List Sg} {n : Nat}, (∀ F ∈ C, ∀ f ∈ F, 1 <= f.length /\ f.length <= n) -> srV m D C run = some x -> run.length + C.length <= x.length /\ x.length <= run.length + n * C.length
 | [], run, x, n, _, h => by
  unfold srV at h;split at h
  ·injection h with h; subst h; simp
  ·cases h
 | F :: r, run, x, n, hC, h => by
  unfold srV at h;obtain ⟨f, hf, h1⟩ := List.exists_of_findSome?_eq_some h;obtain ⟨h2, h3⟩ := zlU (n := n) (fun G hG => hC G (List.mem_cons_of_mem _ hG)) h1;have h4 := hC F (by simp) f hf;rw [List.length_append] at h2 h3;simp only [List.length_cons, Nat.mul_succ];omega
def chV (m : Mn) (l : List Bt) (h : Hb) : List (List (List Sg)) := l.map fun b => frV m b h
theorem zpW (r : Bool) (f : Fo) : 1 <= (foS r f).length /\ (foS r f).length <= 2 := by
 unfold foS; cases f.d <;> simp
theorem zj3 {m : Mn} {b : Bt} {h : Hb} {f : List Sg} (hf : f ∈ frV m b h) : 1 <= f.length /\ f.length <= 2 := by
 unfold frV at hf;obtain ⟨x, -, rfl⟩ := List.mem_map.1 hf;exact zpW _ _
theorem zoa {m : Mn} {l : List Bt} {h : Hb} : ∀ F ∈ chV m l h, ∀ f ∈ F, 1 <= f.length /\ f.length <= 2 := fun F hF f hf => by
 unfold chV at hF;obtain ⟨b, -, rfl⟩ := List.mem_map.1 hF;exact zj3 hf
def wrO (m : Mn) (l : List Bt) (h : Hb) : Option (List Sg) := srV m (durB l) (chV m l h) []
def wrE (m : Mn) (l : List Bt) (h : Hb) : Int := if wcnE m l h = 0 then (if l = [] then 0 else if (wrO m l h).isSome then 0 else 18) else wcnE m l h
def wrV (m : Mn) (l : List Bt) (h : Hb) : List Sg := if wcnE m l h = 0 then (if l = [] then [] else (wrO m l h).getD []) else []
end
section
def fmV (m : Mn) (b : Bt) (h : Hb) : List (List Sg) := if wcE m [b] = 0 then frV m b h else []
theorem zlV {m : Mn} {l : List Bt} {h : Hb} (c : ¬ wcE m l = 0) : wcnE m l h = wcE m l /\ wcnV m l h = 0 := by
 have e : wcnE m l h = wcE m l := by unfold wcnE; rw [if_neg c]
 exact ⟨e, by unfold wcnV; rw [e, if_neg c]⟩
theorem zlW {m : Mn} {l : List Bt} {h : Hb} (c : wcE m l = 0) (c2 : 12 < l.length) : wcnE m l h = 11 /\ wcnV m l h = 0 := by
 have e : wcnE m l h = 11 := by unfold wcnE; rw [if_pos c, if_pos c2]
 exact ⟨e, by unfold wcnV; rw [e]; rfl⟩
theorem zob {m : Mn} {l : List Bt} {h : Hb} (c : wcE m l = 0) (c2 : ¬ 12 < l.length) (c3 : 4096 < cnP m h l) : wcnE m l h = 15 /\ wcnV m l h = 0 := by
 have e : wcnE m l h = 15 := by unfold wcnE; rw [if_pos c, if_neg c2, if_pos c3]
 exact ⟨e, by unfold wcnV; rw [e]; rfl⟩
theorem zoc {m : Mn} {l : List Bt} {h : Hb} (c : wcE m l = 0) (c2 : ¬ 12 < l.length) (c3 : ¬ 4096 < cnP m h l) : wcnE m l h = 0 /\ wcnV m l h = (cnP m h l : Int) := by
 have e : wcnE m l h = 0 := by unfold wcnE; rw [if_pos c, if_neg c2, if_neg c3]
 exact ⟨e, by unfold wcnV; rw [e]; rfl⟩
theorem zsD {m : Mn} {h : Hb} {l : List Bt} {k : Nat} {b : Bt} (hi : l[k]? = some b) : ((cnP m h (l.take k) : Nat) : Int) * ((frV m b h).length : Int) = ((cnP m h (l.take (k + 1)) : Nat) : Int) := by
 rw [zuO hi]; simp
theorem zuR {m : Mn} {h : Hb} {l : List Bt} {k : Nat} {b : Bt} (hi : l[k]? = some b) : chV m (l.take k) h ++ [frV m b h] = chV m (l.take (k + 1)) h := by
 unfold chV; rw [List.take_add_one, hi]; simp
theorem zlX (m : Mn) (l : List Bt) (h : Hb) : (chV m l h).length = l.length := by unfold chV; simp
def rsL (l : List Sg) : List Bool := (l.filter fun s => !decide (s.Kind = 3)).map fun s => decide (s.Kind = 2)
theorem zjk {l : List Sg} {k : Nat} {s : Sg} (h : l[k]? = some s) (h3 : s.Kind = 3) : rsL (l.take k) = rsL (l.take (k + 1)) := by
 unfold rsL; rw [List.take_add_one, h]; simp [h3]
theorem zkS {l : List Sg} {k : Nat} {s : Sg} (h : l[k]? = some s) (h3 : ¬ s.Kind = 3) : rsL (l.take k) ++ [decide (s.Kind = 2)] = rsL (l.take (k + 1)) := by
 unfold rsL; rw [List.take_add_one, h]; simp [h3]
theorem zjl (l : List Sg) : (rsL l).length <= l.length := by
 unfold rsL; rw [List.length_map]; exact List.length_filter_le _ _
def wisE (m : Mn) (l : List Bt) (r : List Sg) : Int := if wcE m l = 0 then ckD m r else wcE m l
def wisB (m : Mn) (l : List Bt) (r : List Sg) : Bool := if wisE m l r = 0 then decide (l.map (·.Rest) = rsL r) && reQ m r (durB l) else false
theorem zxN {m : Mn} {l : List Bt} {r : List Sg} (c : ¬ wcE m l = 0) : wisE m l r = wcE m l /\ wisB m l r = false := by
 have e : wisE m l r = wcE m l := by unfold wisE; rw [if_neg c]
 exact ⟨e, by unfold wisB; rw [e, if_neg c]⟩
theorem zxO {m : Mn} {l : List Bt} {r : List Sg} (c : wcE m l = 0) (c2 : ¬ ckD m r = 0) : wisE m l r = ckD m r /\ wisB m l r = false := by
 have e : wisE m l r = ckD m r := by unfold wisE; rw [if_pos c]
 exact ⟨e, by unfold wisB; rw [e, if_neg c2]⟩
theorem zxP {m : Mn} {l : List Bt} {r : List Sg} (c : wcE m l = 0) (c2 : ckD m r = 0) : wisE m l r = 0 /\ wisB m l r = (decide (l.map (·.Rest) = rsL r) && reQ m r (durB l)) := by
 have e : wisE m l r = 0 := by unfold wisE; rw [if_pos c, c2]
 exact ⟨e, by unfold wisB; rw [if_pos e]⟩
theorem zuS {l : List Bt} {R : List Bool} {k : Nat} {b : Bt} {r : Bool} (hb : l[k]? = some b) (hr : R[k]? = some r) (h : (l.take k).map (·.Rest) = R.take k) (e : b.Rest = r) : (l.take (k + 1)).map (·.Rest) = R.take (k + 1) := by
 rw [List.take_add_one, hb, List.take_add_one, hr]; simp [h, e]
theorem zsE {l : List Bt} {R : List Bool} {k : Nat} {b : Bt} {r : Bool} (hb : l[k]? = some b) (hr : R[k]? = some r) (e : ¬ b.Rest = r) : ¬ l.map (·.Rest) = R := fun h => by
 have h1 : (l.map (·.Rest))[k]? = some b.Rest := by rw [List.getElem?_map, hb]; rfl
 rw [h, hr] at h1; injection h1 with h1; exact e h1.symm
attribute [local irreducible] Pur yr yw Ex X Fn Imp LeV LeB FnO It yx FnW FnOW FnP FnD
attribute [local irreducible] wcE btF ckT ckM ckD frV wcnE wcnV cnP chV durB rdE rdV rsL wisE wisB
theorem zhZ (m : Mn) (b : Bt) (h : Hb) : Fn Tryz.prog 64 [mnA m, btA b, hbA h] (.tup [zF (fmV m b h), iv (wcE m [b])]) := by
 refine Fn.go Tryz.func64 Tryz.ntmps64 (fun g w d => ?_);refine gq ?_;refine Ex.stepA (zac (enc := btE) (l := [b]) sl22 ty76 ze76) rfl rfl ?_;refine yb (zcp m [b] (by simp)) ?_;refine gd ?_ ?_<;>intro hc1
 ·have hV : fmV m b h = [] := by unfold fmV; rw [if_neg hc1]
  apply yg;refine zh ?_;refine X.ret ?_;refine RetQ.imp (ye (ts := [(6, zF []), (7, iv (wcE m [b]))]) (hs := [])) ?_;refine yi ?_ ?_;all_goals (first | (rw [hV]; done) | rfl)
 have h0 : wcE m [b] = 0 := by omega
 have hV : fmV m b h = frV m b h := by unfold fmV; rw [if_pos h0]
 refine gq ?_;refine yb (zcr m b h) ?_;refine gq ?_;refine yi ?_ ?_;all_goals (first | exact congrArg (fun z => zF z) hV.symm | exact congrArg (AV.int .i64) h0.symm)
set_option maxHeartbeats 1000000 in
theorem zcq (m : Mn) (l : List Bt) (h : Hb) (hl : l.length <= 4000000000) : Fn Tryz.prog 45 [mnA m, btsA l, hbA h] (.tup [iv (wcnV m l h), iv (wcnE m l h)]) := by
 have hp0 : (1 : Int) = ((cnP m h (l.take 0) : Nat) : Int) := by unfold cnP; rfl
 refine Fn.go Tryz.func45 Tryz.ntmps45 (fun g w d => ?_);refine gq ?_;refine yb (zcp m l hl) ?_;refine gd ?_ ?_<;>intro hc1
 ·have hZ1 := zlV (h := h) hc1;obtain ⟨hE, hV⟩ := hZ1;refine gq ?_;refine yi ?_ ?_;all_goals (first | (rw [hV]; done) | (rw [hE]; done) | (rw [hV, htk]; done))
 have h0 : wcE m l = 0 := by omega
 refine gd ?_ ?_<;>intro hc2
 ·have hZ2 := zlW (h := h) h0 (by omega);obtain ⟨hE, hV⟩ := hZ2;refine gq ?_;refine yi ?_ ?_;all_goals (first | (rw [hV]; done) | (rw [hE]; done) | (rw [hV, htk]; done))
 have h12 : ¬ 12 < l.length := by omega
 refine gq ?_
 refine yS (ι := Nat) (fun (k : Nat) => [(3, .ptr 3 0 0 0), (5, .ptr 5 0 0 0), (9, iv ((cnP m h (l.take k) : Nat) : Int)), (21, btsA l), (22, iv (l.length : Int)), (23, iv (k : Int))]) (fun (k : Nat) => [(3, .box (mnE m) 32), (5, .box (hbE h) 35)]) (fun (k : Nat) => k <= l.length) (fun (k : Nat) => l.length - k) 0 (fun k hk => ?_) (h0 := by
  exact yd)
 refine gd ?_ ?_<;>intro hc3
 ·obtain ⟨b, hb⟩ : ∃ b, l[k]? = some b := ⟨_, lgg (by omega)⟩;have hb2 : l[(k : Int).toNat]? = some b := by simpa using hb
  have hs := zsD (m := m) (h := h) hb;have hq := zsA (m := m) (h := h) (l := l) (by omega) (k + 1);have hf := zdY m b h;refine gq ?_;refine yb (zcr m b h) ?_;refine gq ?_;refine yz (k + 1) (hI := yd)
 ·obtain rfl : k = l.length := by omega
  have htk : cnP m h (l.take l.length) = cnP m h l := by rw [List.take_length]
  refine gd ?_ ?_<;>intro hc4
  ·have hZ3 := zob (h := h) h0 h12 (by omega);obtain ⟨hE, hV⟩ := hZ3;refine gq ?_;refine yi ?_ ?_;all_goals (first | (rw [hV]; done) | (rw [hE]; done) | (rw [hV, htk]; done))
  have hZ4 := zoc (h := h) h0 h12 (by omega);obtain ⟨hE, hV⟩ := hZ4;refine gq ?_;refine yi ?_ ?_;all_goals (first | (rw [hV]; done) | (rw [hE]; done) | (rw [hV, htk]; done))
theorem zge (m : Mn) (l : List Bt) (h : Hb) (hl : l.length <= 1000000) : Fn Tryz.prog 58 [mnA m, btsA l, hbA h] (chsA (chV m l h)) := by
 have hz0 : [] = chV m (l.take 0) h := by unfold chV; rfl
 refine Fn.go Tryz.func58 Tryz.ntmps58 (fun g w d => ?_);apply yg;iterate 2 refine zaS ?_
 refine ya ?_;apply yI;refine yu ?_;iterate 2 apply yl
 refine X.imp (yL zhe 55 1 7 30 rfl rfl) ?_;refine gq ?_
 refine yS (ι := Nat) (fun (k : Nat) => [(3, .ptr 3 0 0 0), (5, .ptr 5 0 0 0), (7, .own 30), (10, btsA l), (11, iv (l.length : Int)), (12, iv (k : Int))]) (fun (k : Nat) => [(3, .box (mnE m) 32), (5, .box (hbE h) 35), (30, .row zhe (chV m (l.take k) h) 55 1)]) (fun (k : Nat) => k <= l.length) (fun (k : Nat) => l.length - k) 0 (fun k hk => ?_) (h0 := by
  exact yd)
 refine gd ?_ ?_<;>intro hc1
 ·obtain ⟨b, hb⟩ : ∃ b, l[k]? = some b := ⟨_, lgg (by omega)⟩;have hb2 : l[(k : Int).toNat]? = some b := by simpa using hb
  have hs := zuR (m := m) (h := h) hb;have hlt : (chV m (l.take k) h).length <= 1000000 := by rw [zlX, List.length_take]; omega
  refine gq ?_;refine yb (zcr m b h) ?_;refine yJ zhe [frV m b h] ?_;refine gq ?_;refine yz (k + 1) (hI := yd)
 ·obtain rfl : k = l.length := by omega
  have hV : chV m (l.take l.length) h = chV m l h := by rw [List.take_length]
  apply X.exit;apply yg;refine zm ?_;refine X.ret ?_;refine RetQ.imp (Imp.freeze (k := 30) rfl) ?_;refine gq ?_;all_goals (exact congrArg (fun z => chsA z) hV)
theorem zX (l : List Bt) (R : List Bool) (hl : l.length <= 4000000000) : Fn Tryz.prog 52 [btsA l, zcu R, .fn 53 []] (.bool (decide (l.map (·.Rest) = R))) := by
 refine Fn.go Tryz.func52 Tryz.ntmps52 (fun g w d => ?_);refine gd ?_ ?_<;>intro hc1
 ·have hV : decide (l.map (·.Rest) = R) = false := by rw [decide_eq_false_iff_not]; intro e; rw [← e, List.length_map] at hc1; exact hc1 rfl
  refine gq ?_;all_goals (rw [hV])
 have hln : l.length = R.length := by omega
 refine gq ?_
 refine yS (ι := Nat) (fun (k : Nat) => [(1, zcu R), (2, .fn 53 []), (15, btsA l), (16, iv (l.length : Int)), (17, iv (k : Int))]) (fun (k : Nat) => []) (fun (k : Nat) => k <= l.length /\ (l.take k).map (·.Rest) = R.take k) (fun (k : Nat) => l.length - k) 0 (fun k hk => ?_) (hJ := by
  exact ⟨by omega, by simp⟩) (h0 := by
  exact yd)
 obtain ⟨hk1, hk2⟩ := hk;refine gd ?_ ?_<;>intro hc2
 ·obtain ⟨b, hb⟩ : ∃ b, l[k]? = some b := ⟨_, lgg (by omega)⟩;have hb2 : l[(k : Int).toNat]? = some b := by simpa using hb
  obtain ⟨r, hr⟩ : ∃ r, R[k]? = some r := ⟨_, lgg (by omega)⟩;have hr2 : R[(k : Int).toNat]? = some r := by simpa using hr
  refine gq ?_;refine yb (zjj b r) ?_;refine gd ?_ ?_<;>intro hc3
  ·have hV : decide (l.map (·.Rest) = R) = false := by rw [decide_eq_false_iff_not]; exact zsE hb hr (by simpa using hc3)
   refine gq ?_;all_goals (rw [hV])
  refine gq ?_
  refine yz (k + 1) (hJ := by
   exact ⟨by omega, zuS hb hr hk2 (by simpa using hc3)⟩) (hI := yd)
 ·obtain rfl : k = l.length := by omega
  have hV : decide (l.map (·.Rest) = R) = true := by rw [decide_eq_true_iff]; rw [List.take_length, hln, List.take_length] at hk2; exact hk2
  refine gq ?_;all_goals (rw [hV])
end
end Go.Rse
