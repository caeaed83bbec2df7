/-
  Walks: the program's combinations of meanings.
-/
import Derived.Test.YtggdlojopkoegaaGreatDoorOJLev6
import Derived.Test.YtggdlojopkoegaaGreatDoorOJColor3
import Derived.Test.YtggdlojopkoegaaGreatDoorOLogB
import Derived.Test.YtggdlojopkoegaaGreatDoorOJWri2
import Derived.Test.YtggdlojopkoegaaGreatDoorOJWri3
import Derived.Test.YtggdlojopkoegaaGreatDoorOLogC
set_option linter.unusedSimpArgs false
set_option linter.unusedVariables false
namespace Go.Rse
open Go Go.Proofs
attribute [local irreducible] Pur yz yA Ex X Fn Imp LeV LeB FnO It yE
attribute [local irreducible] ckD zV twos prL
set_option maxHeartbeats 4000000 in
theorem zix (m : Mn) (l : List Sg) (hl : l.length <= 1000) : Fn Tryz.prog 158 [mnA m, sgsA l] (.tup [yl (if ckD m l = 0 then zV m l else []), yl (twos (prL m l).length), iv (ckD m l)]) := by
 refine Fn.go Tryz.func158 Tryz.ntmps158 (fun g w d => ?_);apply yb;refine yD ?_;iterate 3 refine ya ?_
 apply yj;iterate 2 refine ya ?_
 refine ym (zjk m l hl) ?_;refine zw ?_;apply yd;apply yb;refine yg ?_;refine yk rfl ?_ ?_<;>intro hc1
 ·have ht : [] = twos (prL m l).length := by rw [zlv hc1]; unfold twos; rfl
  have hr : [] = (if ckD m l = 0 then zV m l else []) := by rw [if_neg hc1]
  apply yb;refine z6 ?_;refine X.ret ?_;refine RetQ.imp (yn (ts := [(4, yl []), (5, yl []), (6, iv (ckD m l))]) (hs := [])) ?_;refine RetQ.ret (.many (by decide) (.cons (.tmp rfl (LeV.eq ?_)) (.cons (.tmp rfl (LeV.eq ?_)) (.cons (.tmp rfl (LeV.eq ?_)) .nil))));all_goals (first | exact congrArg yl ht | exact congrArg yl hr | rfl)
 apply yf;apply yb;iterate 2 refine ya ?_
 refine ym (zhC m l hl) ?_;refine zw ?_;apply yd;apply yb;refine yg ?_;refine yk rfl ?_ ?_<;>intro hc2
 ·exact absurd hc1 hc2
 apply yf;apply yb;refine zw ?_;refine X.ret ?_;refine RetQ.ret (.many (by decide) (.cons (.tmp rfl (LeV.eq ?_)) (.cons (.tmp rfl (LeV.eq ?_)) (.cons (.tmp rfl (LeV.eq ?_)) .nil))));all_goals (first | rfl | exact congrArg (AV.int .i64) hc1.symm)
end Go.Rse
namespace Go.Rse
open Go Go.Proofs
attribute [local irreducible] Pur yz yA Ex X Fn Imp LeV LeB FnO It yE
attribute [local irreducible] ckD zV twos prL mnsD
end Go.Rse
namespace Go.Rse
open Go Go.Proofs Go.RowKit
attribute [local irreducible] Pur yz yA Ex X Fn Imp LeV LeB FnO It yE
theorem zlK (m : Mn) (l : List Sg) (ch mi : List Int) : (itmV m l ch mi).length <= l.length := by
 unfold itmV; split
 ·rw [zjo]; exact zjm l _
 ·simp
attribute [local irreducible] itmE itmV zV ckD twos prL
end Go.Rse
namespace Go.Rse
open Go Go.Proofs
def rdI (m : Mn) (l : List Sg) : List Ite := itmV m l (zV m l) (twos (prL m l).length)
def rdE (m : Mn) (l : List Sg) : Int := if ckD m l = 0 then leE m (rdI m l) else ckD m l
def rdV (m : Mn) (l : List Sg) : Rdg := if rdE m l = 0 then ⟨zV m l, twos (prL m l).length, leC m (rdI m l), (leI m (rdI m l)).map (·.Dur)⟩ else ⟨[], [], [], []⟩
section
variable {m : Mn} {l : List Sg}
theorem zrk (h : ckD m l = 0) : itmE m l (zV m l) (twos (prL m l).length) = 0 := by
 unfold itmE;rw [if_pos (znk (zfJ h).1 h)]; exact znl h
theorem ztX (h : ¬ ckD m l = 0) : rdE m l = ckD m l /\ rdV m l = ⟨[], [], [], []⟩ := by
 have : rdE m l = ckD m l := by unfold rdE; rw [if_neg h]
 refine ⟨this, ?_⟩; unfold rdV; rw [this, if_neg h]
theorem ztY (h : ckD m l = 0) (h2 : ¬ leE m (rdI m l) = 0) : rdE m l = leE m (rdI m l) /\ rdV m l = ⟨[], [], [], []⟩ := by
 have : rdE m l = leE m (rdI m l) := by unfold rdE; rw [if_pos h]
 refine ⟨this, ?_⟩; unfold rdV; rw [this, if_neg h2]
theorem ztZ (h : ckD m l = 0) (h2 : leE m (rdI m l) = 0) : rdE m l = 0 /\ rdV m l = ⟨zV m l, twos (prL m l).length, leC m (rdI m l), (leI m (rdI m l)).map (·.Dur)⟩ := by
 have : rdE m l = 0 := by unfold rdE; rw [if_pos h, h2]
 refine ⟨this, ?_⟩; unfold rdV; rw [this, if_pos rfl]
theorem zjW : (rdI m l).length <= l.length := zlK _ _ _ _
end
theorem zjX {m : Mn} : ∀ (L : List Int) (l : List Ite) (C : List Int), (lvF m L l C).2.1.length <= l.length
 | [], l, C => Nat.le_refl _
 | k :: r, l, C => by
  unfold lvF;split
  ·rename_i h;have := zjX (m := m) r (apV m k l (cuV m k l)) (C ++ cuV m k l);rw [zj1 (zlX h)] at this; exact this
  ·simp
theorem zjY (m : Mn) (l : List Ite) : (leI m l).length <= l.length := by
 unfold leI;split
 ·exact zjX _ _ _
 ·simp
theorem zpM {l : List Ite} {n : Nat} {x : Ite} (h : l[n]? = some x) : (l.take n).map (·.Dur) ++ [x.Dur] = (l.take (n + 1)).map (·.Dur) := by
 rw [List.take_add_one, h]; simp
end Go.Rse
namespace Go.Rse
open Go Go.Proofs
def cnP (m : Mn) (h : Hb) : List Bt -> Nat
 | [] => 1
 | b :: r => (frV m b h).length * cnP m h r
theorem ziy (m : Mn) (h : Hb) (b : Bt) : ∀ l, cnP m h (l ++ [b]) = cnP m h l * (frV m b h).length
 | [] => by simp [cnP]
 | x :: r => by
  show (frV m x h).length * cnP m h (r ++ [b]) = (frV m x h).length * cnP m h r * _;rw [ziy m h b r, Nat.mul_assoc]
theorem zrl {m : Mn} {h : Hb} {l : List Bt} {i : Nat} {b : Bt} (hi : l[i]? = some b) : cnP m h (l.take (i + 1)) = cnP m h (l.take i) * (frV m b h).length := by
 rw [List.take_add_one, hi]; exact ziy m h b _
theorem zlL (m : Mn) (h : Hb) : ∀ l, cnP m h l <= 32 ^ l.length
 | [] => Nat.le_refl _
 | b :: r => by
  have h1 := zh0 m b h;have h2 := zlL m h r;show (frV m b h).length * cnP m h r <= 32 ^ (r.length + 1);rw [Nat.pow_succ, Nat.mul_comm];exact Nat.mul_le_mul h2 h1
theorem zpN {m : Mn} {h : Hb} {l : List Bt} (hl : l.length <= 12) (i : Nat) : cnP m h (l.take i) <= 1152921504606846976 := by
 refine Nat.le_trans (zlL m h _) ?_;rw [show 1152921504606846976 = 32 ^ 12 by decide];exact Nat.pow_le_pow_right (by decide) (by rw [List.length_take]; omega)
def wcnE (m : Mn) (l : List Bt) (h : Hb) : Int := if wcE m l = 0 then (if 12 < l.length then 11 else if 4096 < cnP m h l then 15 else 0) else wcE m l
def wcnV (m : Mn) (l : List Bt) (h : Hb) : Int := if wcnE m l h = 0 then (cnP m h l : Int) else 0
attribute [local irreducible] frV
def reQ (m : Mn) (l : List Sg) (D : List Tm) : Bool := decide (rdE m l = 0) && decide ((rdV m l).Durs = D)
def srV (m : Mn) (D : List Tm) : List (List (List Sg)) -> List Sg -> Option (List Sg)
 | [], run => if reQ m run D then some run else none
 | F :: r, run => F.findSome? fun f => srV m D r (run ++ f)
theorem zoZ {m : Mn} {D : List Tm} {r : List (List (List Sg))} {run : List Sg} {F : List (List Sg)} {i : Nat} {f : List Sg} (hi : F[i]? = some f) (h0 : (F.take i).findSome? (fun f => srV m D r (run ++ f)) = none) : (F.take (i + 1)).findSome? (fun f => srV m D r (run ++ f)) = srV m D r (run ++ f) := by
 rw [List.take_add_one, hi, List.findSome?_append, h0];simp
theorem zlM {m : Mn} {D : List Tm} {r : List (List (List Sg))} {run : List Sg} {F : List (List Sg)} {i : Nat} {x : List Sg} (h : (F.take i).findSome? (fun f => srV m D r (run ++ f)) = some x) : srV m D (F :: r) run = some x := by
 show F.findSome? (fun f => srV m D r (run ++ f)) = some x;conv => lhs; rw [← List.take_append_drop i F]
 rw [List.findSome?_append, h]; rfl
theorem zjZ {m : Mn} {D : List Tm} : ∀ {C : List (List (List Sg))} {run x : List Sg} {n : Nat}, (∀ F ∈ C, ∀ f ∈ F, 1 <= f.length /\ f.length <= n) -> srV m D C run = some x -> run.length + C.length <= x.length /\ x.length <= run.length + n * C.length
 | [], run, x, n, _, h => by
  unfold srV at h;split at h
  ·injection h with h; subst h; simp
  ·cases h
 | F :: r, run, x, n, hC, h => by
  unfold srV at h;obtain ⟨f, hf, h1⟩ := List.exists_of_findSome?_eq_some h;obtain ⟨h2, h3⟩ := zjZ (n := n) (fun G hG => hC G (List.mem_cons_of_mem _ hG)) h1;have h4 := hC F (by simp) f hf;rw [List.length_append] at h2 h3;simp only [List.length_cons, Nat.mul_succ];omega
def chV (m : Mn) (l : List Bt) (h : Hb) : List (List (List Sg)) := l.map fun b => frV m b h
theorem znc (r : Bool) (f : Fo) : 1 <= (foS r f).length /\ (foS r f).length <= 2 := by
 unfold foS; cases f.d <;> simp
theorem zlN {m : Mn} {b : Bt} {h : Hb} {f : List Sg} (hf : f ∈ frV m b h) : 1 <= f.length /\ f.length <= 2 := by
 unfold frV at hf;obtain ⟨x, -, rfl⟩ := List.mem_map.1 hf;exact znc _ _
theorem zlO {m : Mn} {l : List Bt} {h : Hb} : ∀ F ∈ chV m l h, ∀ f ∈ F, 1 <= f.length /\ f.length <= 2 := fun F hF f hf => by
 unfold chV at hF;obtain ⟨b, -, rfl⟩ := List.mem_map.1 hF;exact zlN hf
def wrO (m : Mn) (l : List Bt) (h : Hb) : Option (List Sg) := srV m (durB l) (chV m l h) []
def wrE (m : Mn) (l : List Bt) (h : Hb) : Int := if wcnE m l h = 0 then (if l = [] then 0 else if (wrO m l h).isSome then 0 else 18) else wcnE m l h
def wrV (m : Mn) (l : List Bt) (h : Hb) : List Sg := if wcnE m l h = 0 then (if l = [] then [] else (wrO m l h).getD []) else []
end Go.Rse
namespace Go.Rse
open Go Go.Proofs
def fmV (m : Mn) (b : Bt) (h : Hb) : List (List Sg) := if wcE m [b] = 0 then frV m b h else []
theorem zrm {m : Mn} {l : List Bt} {h : Hb} (c : ¬ wcE m l = 0) : wcnE m l h = wcE m l /\ wcnV m l h = 0 := by
 have e : wcnE m l h = wcE m l := by unfold wcnE; rw [if_neg c]
 exact ⟨e, by unfold wcnV; rw [e, if_neg c]⟩
theorem zrn {m : Mn} {l : List Bt} {h : Hb} (c : wcE m l = 0) (c2 : 12 < l.length) : wcnE m l h = 11 /\ wcnV m l h = 0 := by
 have e : wcnE m l h = 11 := by unfold wcnE; rw [if_pos c, if_pos c2]
 exact ⟨e, by unfold wcnV; rw [e]; rfl⟩
theorem zro {m : Mn} {l : List Bt} {h : Hb} (c : wcE m l = 0) (c2 : ¬ 12 < l.length) (c3 : 4096 < cnP m h l) : wcnE m l h = 15 /\ wcnV m l h = 0 := by
 have e : wcnE m l h = 15 := by unfold wcnE; rw [if_pos c, if_neg c2, if_pos c3]
 exact ⟨e, by unfold wcnV; rw [e]; rfl⟩
theorem zrp {m : Mn} {l : List Bt} {h : Hb} (c : wcE m l = 0) (c2 : ¬ 12 < l.length) (c3 : ¬ 4096 < cnP m h l) : wcnE m l h = 0 /\ wcnV m l h = (cnP m h l : Int) := by
 have e : wcnE m l h = 0 := by unfold wcnE; rw [if_pos c, if_neg c2, if_neg c3]
 exact ⟨e, by unfold wcnV; rw [e]; rfl⟩
theorem zpO {m : Mn} {h : Hb} {l : List Bt} {k : Nat} {b : Bt} (hi : l[k]? = some b) : ((cnP m h (l.take k) : Nat) : Int) * ((frV m b h).length : Int) = ((cnP m h (l.take (k + 1)) : Nat) : Int) := by
 rw [zrl hi]; simp
theorem zrq {m : Mn} {h : Hb} {l : List Bt} {k : Nat} {b : Bt} (hi : l[k]? = some b) : chV m (l.take k) h ++ [frV m b h] = chV m (l.take (k + 1)) h := by
 unfold chV; rw [List.take_add_one, hi]; simp
theorem zj0 (m : Mn) (l : List Bt) (h : Hb) : (chV m l h).length = l.length := by unfold chV; simp
def rsL (l : List Sg) : List Bool := (l.filter fun s => !decide (s.Kind = 3)).map fun s => decide (s.Kind = 2)
theorem znd {l : List Sg} {k : Nat} {s : Sg} (h : l[k]? = some s) (h3 : s.Kind = 3) : rsL (l.take k) = rsL (l.take (k + 1)) := by
 unfold rsL; rw [List.take_add_one, h]; simp [h3]
theorem zpP {l : List Sg} {k : Nat} {s : Sg} (h : l[k]? = some s) (h3 : ¬ s.Kind = 3) : rsL (l.take k) ++ [decide (s.Kind = 2)] = rsL (l.take (k + 1)) := by
 unfold rsL; rw [List.take_add_one, h]; simp [h3]
theorem zne (l : List Sg) : (rsL l).length <= l.length := by
 unfold rsL; rw [List.length_map]; exact List.length_filter_le _ _
def wisE (m : Mn) (l : List Bt) (r : List Sg) : Int := if wcE m l = 0 then ckD m r else wcE m l
def wisB (m : Mn) (l : List Bt) (r : List Sg) : Bool := if wisE m l r = 0 then decide (l.map (·.Rest) = rsL r) && reQ m r (durB l) else false
theorem zt0 {m : Mn} {l : List Bt} {r : List Sg} (c : ¬ wcE m l = 0) : wisE m l r = wcE m l /\ wisB m l r = false := by
 have e : wisE m l r = wcE m l := by unfold wisE; rw [if_neg c]
 exact ⟨e, by unfold wisB; rw [e, if_neg c]⟩
theorem zt1 {m : Mn} {l : List Bt} {r : List Sg} (c : wcE m l = 0) (c2 : ¬ ckD m r = 0) : wisE m l r = ckD m r /\ wisB m l r = false := by
 have e : wisE m l r = ckD m r := by unfold wisE; rw [if_pos c]
 exact ⟨e, by unfold wisB; rw [e, if_neg c2]⟩
theorem zt2 {m : Mn} {l : List Bt} {r : List Sg} (c : wcE m l = 0) (c2 : ckD m r = 0) : wisE m l r = 0 /\ wisB m l r = (decide (l.map (·.Rest) = rsL r) && reQ m r (durB l)) := by
 have e : wisE m l r = 0 := by unfold wisE; rw [if_pos c, c2]
 exact ⟨e, by unfold wisB; rw [if_pos e]⟩
theorem zrr {l : List Bt} {R : List Bool} {k : Nat} {b : Bt} {r : Bool} (hb : l[k]? = some b) (hr : R[k]? = some r) (h : (l.take k).map (·.Rest) = R.take k) (e : b.Rest = r) : (l.take (k + 1)).map (·.Rest) = R.take (k + 1) := by
 rw [List.take_add_one, hb, List.take_add_one, hr]; simp [h, e]
theorem zpQ {l : List Bt} {R : List Bool} {k : Nat} {b : Bt} {r : Bool} (hb : l[k]? = some b) (hr : R[k]? = some r) (e : ¬ b.Rest = r) : ¬ l.map (·.Rest) = R := fun h => by
 have h1 : (l.map (·.Rest))[k]? = some b.Rest := by rw [List.getElem?_map, hb]; rfl
 rw [h, hr] at h1; injection h1 with h1; exact e h1.symm
attribute [local irreducible] Pur yz yA Ex X Fn Imp LeV LeB FnO It yE FnW FnOW FnP FnD
attribute [local irreducible] wcE btF ckT ckM ckD frV wcnE wcnV cnP chV durB rdE rdV rsL wisE wisB
theorem zdC (m : Mn) (b : Bt) (h : Hb) : Fn Tryz.prog 28 [mnA m, btA b, hbA h] (.tup [zef (fmV m b h), iv (wcE m [b])]) := by
 refine Fn.go Tryz.func28 Tryz.ntmps28 (fun g w d => ?_);apply yb;iterate 3 refine yD ?_
 refine yg ?_;apply yd;apply yb;iterate 2 refine ya ?_
 refine Ex.stepA (yG (enc := btE) (l := [b]) sl24 ty42 ze42 (by decide) rfl rfl rfl rfl (by decide) (by decide) (fun _ => rfl) rfl) rfl rfl ?_;refine ym (za7 m [b] (by simp)) ?_;refine ya ?_;apply yj;refine yg ?_;refine yk rfl ?_ ?_<;>intro hc1
 ·have hV : fmV m b h = [] := by unfold fmV; rw [if_neg hc1]
  apply yb;refine yo ?_;refine X.ret ?_;refine RetQ.imp (yn (ts := [(6, zef []), (7, iv (wcE m [b]))]) (hs := [])) ?_;refine yy ?_ ?_;all_goals (first | (rw [hV]; done) | rfl)
 have h0 : wcE m [b] = 0 := by omega
 have hV : fmV m b h = frV m b h := by unfold fmV; rw [if_pos h0]
 apply yf;apply yb;iterate 3 refine ya ?_
 refine ym (zbY m b h) ?_;refine yg ?_;refine X.ret ?_;refine yy ?_ ?_;all_goals (first | exact congrArg (fun z => zef z) hV.symm | exact congrArg (AV.int .i64) h0.symm)
set_option maxHeartbeats 1000000 in
theorem zgL (m : Mn) (l : List Bt) (h : Hb) (hl : l.length <= 4000000000) : Fn Tryz.prog 32 [mnA m, btsA l, hbA h] (.tup [iv (wcnV m l h), iv (wcnE m l h)]) := by
 have hp0 : (1 : Int) = ((cnP m h (l.take 0) : Nat) : Int) := by unfold cnP; rfl
 refine Fn.go Tryz.func32 Tryz.ntmps32 (fun g w d => ?_);apply yb;iterate 2 refine yD ?_
 refine yg ?_;apply yd;apply yb;iterate 2 refine ya ?_
 refine ym (za7 m l hl) ?_;refine ya ?_;apply yj;refine yg ?_;refine yk rfl ?_ ?_<;>intro hc1
 ·have hZ1 := zrm (h := h) hc1;obtain ⟨hE, hV⟩ := hZ1;apply yb;refine yo ?_;refine X.ret ?_;refine yy ?_ ?_;all_goals (first | (rw [hV]; done) | (rw [hE]; done) | (rw [hV, htk]; done))
 have h0 : wcE m l = 0 := by omega
 apply yf;apply yd;apply yb;refine yo ?_;refine yk rfl ?_ ?_<;>intro hc2
 ·have hZ2 := zrn (h := h) h0 (by omega);obtain ⟨hE, hV⟩ := hZ2;apply yb;refine yg ?_;refine X.ret ?_;refine yy ?_ ?_;all_goals (first | (rw [hV]; done) | (rw [hE]; done) | (rw [hV, htk]; done))
 have h12 : ¬ 12 < l.length := by omega
 apply yf;apply yb;refine ye ?_;apply yd;apply yb;refine yo ?_;apply X.block
 refine zj (ι := Nat) (fun (k : Nat) => [(3, .ptr 3 0 0 0), (5, .ptr 5 0 0 0), (9, iv ((cnP m h (l.take k) : Nat) : Int)), (21, btsA l), (22, iv (l.length : Int)), (23, iv (k : Int))]) (fun (k : Nat) => [(3, .box (mnE m) 23), (5, .box (hbE h) 32)]) (fun (k : Nat) => k <= l.length) (fun (k : Nat) => l.length - k) 0 (fun k hk => ?_) (h0 := by
  exact yq)
 apply yb;refine ye ?_;apply yd;refine yk rfl ?_ ?_<;>intro hc3
 ·obtain ⟨b, hb⟩ : ∃ b, l[k]? = some b := ⟨_, lgg (by omega)⟩;have hb2 : l[(k : Int).toNat]? = some b := by simpa using hb
  have hs := zpO (m := m) (h := h) hb;have hq := zpN (m := m) (h := h) (l := l) (by omega) (k + 1);have hf := zh0 m b h;apply yf;apply yd;apply X.block;apply yb;iterate 2 refine ya ?_
  refine yC ?_;refine Ex.mo ?_;apply Ex.nil;apply yc;iterate 4 refine ya ?_
  refine ym (zbY m b h) ?_;refine yo ?_;apply yc;refine yg ?_;refine yL (k + 1) (hI := yq)
 ·obtain rfl : k = l.length := by omega
  have htk : cnP m h (l.take l.length) = cnP m h l := by rw [List.take_length]
  apply X.exit;apply yd;apply yb;refine yg ?_;refine yk rfl ?_ ?_<;>intro hc4
  ·have hZ3 := zro (h := h) h0 h12 (by omega);obtain ⟨hE, hV⟩ := hZ3;apply yb;refine yg ?_;refine X.ret ?_;refine yy ?_ ?_;all_goals (first | (rw [hV]; done) | (rw [hE]; done) | (rw [hV, htk]; done))
  have hZ4 := zrp (h := h) h0 h12 (by omega);obtain ⟨hE, hV⟩ := hZ4;apply yf;apply yb;refine yo ?_;refine X.ret ?_;refine yy ?_ ?_;all_goals (first | (rw [hV]; done) | (rw [hE]; done) | (rw [hV, htk]; done))
theorem zfa (m : Mn) (l : List Bt) (h : Hb) (hl : l.length <= 1000000) : Fn Tryz.prog 108 [mnA m, btsA l, hbA h] (chsA (chV m l h)) := by
 have hz0 : [] = chV m (l.take 0) h := by unfold chV; rfl
 refine Fn.go Tryz.func108 Tryz.ntmps108 (fun g w d => ?_);apply yb;iterate 2 refine yD ?_
 refine ya ?_;apply yj;refine ye ?_;iterate 2 apply yd
 refine X.imp (y9 zkg 36 1 7 30 rfl rfl) ?_;apply yc;refine yo ?_;apply X.block
 refine zj (ι := Nat) (fun (k : Nat) => [(3, .ptr 3 0 0 0), (5, .ptr 5 0 0 0), (7, .own 30), (10, btsA l), (11, iv (l.length : Int)), (12, iv (k : Int))]) (fun (k : Nat) => [(3, .box (mnE m) 23), (5, .box (hbE h) 32), (30, .row zkg (chV m (l.take k) h) 36 1)]) (fun (k : Nat) => k <= l.length) (fun (k : Nat) => l.length - k) 0 (fun k hk => ?_) (h0 := by
  exact yq)
 apply yb;refine ye ?_;apply yd;refine yk rfl ?_ ?_<;>intro hc1
 ·obtain ⟨b, hb⟩ : ∃ b, l[k]? = some b := ⟨_, lgg (by omega)⟩;have hb2 : l[(k : Int).toNat]? = some b := by simpa using hb
  have hs := zrq (m := m) (h := h) hb;have hlt : (chV m (l.take k) h).length <= 1000000 := by rw [zj0, List.length_take]; omega
  apply yf;apply yd;apply X.block;apply yb;iterate 2 refine ya ?_
  refine yC ?_;refine Ex.mo ?_;apply Ex.nil;apply yc;iterate 4 refine ya ?_
  refine ym (zbY m b h) ?_;refine yQ zkg [frV m b h] ?_;refine Ex.mo ?_;refine ye ?_;apply yc;refine yg ?_;refine yL (k + 1) (hI := yq)
 ·obtain rfl : k = l.length := by omega
  have hV : chV m (l.take l.length) h = chV m l h := by rw [List.take_length]
  apply X.exit;apply yb;refine yg ?_;refine X.ret ?_;refine RetQ.imp (Imp.freeze (k := 30) rfl) ?_;refine yh ?_;all_goals (exact congrArg (fun z => chsA z) hV)
theorem zR (l : List Bt) (R : List Bool) (hl : l.length <= 4000000000) : Fn Tryz.prog 100 [btsA l, zb1 R, .fn 101 []] (.bool (decide (l.map (·.Rest) = R))) := by
 refine Fn.go Tryz.func100 Tryz.ntmps100 (fun g w d => ?_);apply yb;refine ye ?_;apply yd;apply yb;refine zw ?_;refine yk rfl ?_ ?_<;>intro hc1
 ·have hV : decide (l.map (·.Rest) = R) = false := by rw [decide_eq_false_iff_not]; intro e; rw [← e, List.length_map] at hc1; exact hc1 rfl
  apply yb;refine ye ?_;refine X.ret ?_;refine yh ?_;all_goals (rw [hV])
 have hln : l.length = R.length := by omega
 apply yf;apply yd;apply yb;refine yo ?_;apply X.block
 refine zj (ι := Nat) (fun (k : Nat) => [(1, zb1 R), (2, .fn 101 []), (15, btsA l), (16, iv (l.length : Int)), (17, iv (k : Int))]) (fun (k : Nat) => []) (fun (k : Nat) => k <= l.length /\ (l.take k).map (·.Rest) = R.take k) (fun (k : Nat) => l.length - k) 0 (fun k hk => ?_) (hJ := by
  exact ⟨by omega, by simp⟩) (h0 := by
  exact yq)
 obtain ⟨hk1, hk2⟩ := hk;apply yb;refine ye ?_;apply yd;refine yk rfl ?_ ?_<;>intro hc2
 ·obtain ⟨b, hb⟩ : ∃ b, l[k]? = some b := ⟨_, lgg (by omega)⟩;have hb2 : l[(k : Int).toNat]? = some b := by simpa using hb
  obtain ⟨r, hr⟩ : ∃ r, R[k]? = some r := ⟨_, lgg (by omega)⟩;have hr2 : R[(k : Int).toNat]? = some r := by simpa using hr
  apply yf;apply yd;apply X.block;apply yb;iterate 3 refine ya ?_
  refine yC ?_;refine ya ?_;refine Ex.mo ?_;apply yj;iterate 5 refine ya ?_
  apply yj;iterate 3 refine ya ?_
  refine ym (zia b r) ?_;refine ye ?_;refine yk rfl ?_ ?_<;>intro hc3
  ·have hV : decide (l.map (·.Rest) = R) = false := by rw [decide_eq_false_iff_not]; exact zpQ hb hr (by simpa using hc3)
   apply yb;refine ye ?_;refine X.ret ?_;refine yh ?_;all_goals (rw [hV])
  apply yf;apply yc;refine yg ?_
  refine yL (k + 1) (hJ := by
   exact ⟨by omega, zrr hb hr hk2 (by simpa using hc3)⟩) (hI := yq)
 ·obtain rfl : k = l.length := by omega
  have hV : decide (l.map (·.Rest) = R) = true := by rw [decide_eq_true_iff]; rw [List.take_length, hln, List.take_length] at hk2; exact hk2
  apply X.exit;apply yb;refine ye ?_;refine X.ret ?_;refine yh ?_;all_goals (rw [hV])
end Go.Rse
namespace Go.Rse
open Go Go.RowKit
section
variable {P : Program} {C : Ctx} {st : St} {ty : TypeId} {Q : Exit -> St -> Prop}
theorem ziz {α : Type} {enc : α -> List AV} {l : List α} {g : Gh} {a : Act} {w : World} {v : Value} {s : Nat} {ρ : Nat -> Value} (hr : Rel C st g a w) (hv : RV g.I ρ (.sl enc l) v) (hs : 0 < s) (he : ∀ z, (enc z).length = s) :
 ∃ A c news, v = .slice A l.length c /\ l.length <= c /\ news.length = l.length * s /\ RVL g.I noNames (l.flatMap enc) news /\ (l ≠ [] -> ∃ b o, A = some ⟨b, o, none⟩ /\ ∀ j u, news[j]? = some u -> w.cell? ⟨b, o + j, none⟩ = some u) := by
 obtain ⟨A, b, o, s', c, vs, e, hA, hnc, _, h1, h2, h3⟩ := zbB hv
 have hs2 : l ≠ [] -> s' = s := fun hne => by
  cases l with
  | nil => exact absurd rfl hne
  | cons p r => exact (h1 0 p (by simp)).symm.trans (he p)
 have hsl : ∀ (i : Nat) x, l[i]? = some x -> (enc x).length = s := fun i x _ => he x
 have hget : ∀ j u, ((List.range (l.length * s)).map fun q => vs (q / s) (q % s))[j]? = some u -> j < l.length * s /\ u = vs (j / s) (j % s) := fun j u hu => by
  have hj : j < l.length * s := by
   have := (List.getElem?_eq_some_iff.1 hu).1; simpa using this
  simp [List.getElem?_range hj] at hu;exact ⟨hj, hu.symm⟩
 refine ⟨A, c, (List.range (l.length * s)).map fun q => vs (q / s) (q % s), e, hnc, by simp, ⟨by simp [zy l hsl], fun j c v hc hv => ?_⟩, fun hne => ⟨b, o, hA hne, fun j u hu => ?_⟩⟩
 ·obtain ⟨hj, rfl⟩ := hget j v hv;have hq : j / s < l.length := Nat.div_lt_of_lt_mul (by rw [Nat.mul_comm]; exact hj);have hdm : j / s * s + j % s = j := by rw [Nat.mul_comm]; exact Nat.div_add_mod j s
  have hr' : j % s < s := Nat.mod_lt _ hs;have hp := lgg hq;refine h3 (j / s) _ (j % s) c hp ?_;rw [← zca l hsl (j / s) _ (j % s) hp hr', hdm]; exact hc
 ·obtain ⟨hj, rfl⟩ := hget j u hu;have hq : j / s < l.length := Nat.div_lt_of_lt_mul (by rw [Nat.mul_comm]; exact hj);have hdm : j / s * s + j % s = j := by rw [Nat.mul_comm]; exact Nat.div_add_mod j s
  have e2 := hs2 hne;subst e2;have := h2 (j / s') _ (j % s') (lgg hq) (Nat.mod_lt _ hs);have h4 := (hr.sat.im _ _ _ this).1;rw [Nat.add_assoc, hdm] at h4;exact h4
theorem zrs {c : Code} {α : Type} {enc : α -> List AV} {l : List α} (t kh : Nat) (h : ∀ A n, l.length <= n -> X P C c ⟨(t, .val (.slice A l.length n)) :: st.t, (kh, .hold [.slice A l.length n] [.sl enc l]) :: st.h⟩ Q)
 (hx : lk st.t t = some (.sl enc l) := by exact rfl) : X P C c st Q := fun g a w hr => by
 have hv := hr.tmps t _ hx;obtain ⟨A, b, o, s, n, vs, e, hA, hc, -⟩ := zbB hv
 have h1 := hr.withBlk (k := kh) (B := .hold [.slice A l.length n] [.sl enc l]) ⟨rfl, fun j c' v hc' hv' => by
  cases j with
  | zero => simp at hc' hv'; subst hc'; subst hv'; exact e ▸ hv
  | succ j => simp at hc'⟩
 refine h A n hc g a w ⟨h1.size, h1.defers, fun t' x hx' => ?_, h1.sat, h1.ext⟩;simp only [yp] at hx';cases hb : t.beq t' <;> simp [hb] at hx'
 ·exact h1.tmps t' x hx'
 ·have : t = t' := by simpa using hb
  subst this; subst hx'; rw [e]; exact .val _
theorem zg5 {A : Option Addr} {n c : Nat} {x : Operand} {t E : TypeId} (hx : ev st x = some (.val (.slice A n c))) (h : slOk P t E = true) :
 Pur P C (.call { callee := .builtin .len, args := #[x], argTypes := #[t] }) ty st (.int .i64 n) := fun g a w dst pos af gd hr =>
 ⟨_, zdo h (zaT (yw hr hx)), .int _ _⟩
theorem zk6 (a : Addr) : a.add 0 = a := by cases a; simp [Addr.add]
theorem zpR {A : Option Addr} {n c s : Nat} {x y z : Operand} {t E : TypeId} {ag : Bool} (hx : ev st x = some (.val (.slice A n c))) (hy : ev st y = some (.int .i64 n)) (hz : ev st z = some (.int .i64 n)) (ht : slOk P t E = true) (hE : tyOk P E ag s = true) (hnc : n <= c) :
 Pur P C (.slice t x none (some y) (some z)) ty st (.val (.slice A n n)) := fun g a w dst pos af gd hr => by
 have ex := zaT (yw hr hx);have ey := zb (yw hr hy);have ez := zb (yw hr hz)
 have hb : (Instr.sliceBounds true n c none (some (.int .i64 (n : Int))) (some (.int .i64 (n : Int)))).run P w = .ok (0, n, n) w := by
  simp [Instr.sliceBounds, Instr.sliceBound, asIntOf, hnc]
 refine ⟨_, ?_, .val _⟩
 have hm : (if n = 0 then A else Option.map (fun x => x.add 0) A) = A := by
  split
  ·rfl
  ·cases A with
   | none => rfl
   | some b => simp [zk6]
 simp [execOp, Instr.sliceAt, Instr.slice, run_underlying (zg ht), ex, ey, ez, hb, y8 hE, hm]
theorem zgM {α : Type} {enc : α -> List AV} {l l2 : List α} {A : Option Addr} {c k kh : Nat} {t E : TypeId} {z : Value} {s bytes : Nat} {x y : Operand}
 (hx : ev st x = some (.val (.slice A l.length l.length))) (hh : lk st.h kh = some (.hold [.slice A l.length c] [.sl enc l])) (hy : ev st y = some (.sl enc l2)) (ht : slOk P t E = true) (hi : zT P E z s bytes) (hs : 0 < s) (hby : bytes <= 1024) (he : ∀ z, (enc z).length = s)
 (h2 : 0 < l2.length) (hlen : l.length + l2.length <= 4000000000) : yz P C (.call { callee := .builtin .append, args := #[x, y], argTypes := #[t, t] }) ty st (.own k) (some (k, .row enc (l ++ l2) E s)) :=
 zP fun g a w dst pos af gd hr => by
  obtain ⟨i, hi1, hi2, hi3, hi4, hi5⟩ := hi;have hu := zg ht;have ex := zaT (yw hr hx);obtain ⟨A2, c2, news, ey, hnc2, hln, hR2, hsrc⟩ := ziz (s := s) hr (yw hr hy) hs he;obtain ⟨_, hq⟩ := hr.sat.blk kh _ hh;obtain ⟨A1, c1, olds, e1, hnc1, hlo, hR1, hold⟩ := ziz (s := s) hr (hq 0 _ _ rfl rfl) hs he;injection e1 with e1 _ _;subst e1;obtain ⟨b2, o2, hA2, hc2⟩ := hsrc (List.length_pos_iff.1 h2);subst hA2
  have hbb : (l.length + l2.length) * bytes <= 140737488355328 := by
   have : (l.length + l2.length) * bytes <= 4000000000 * 1024 := Nat.mul_le_mul hlen hby;omega
  have hsl : ∀ (i : Nat) x, (l ++ l2)[i]? = some x -> (enc x).length = s := fun i x _ => he x
  have hRR : RVL g.I noNames ((l ++ l2).flatMap enc) (olds ++ news) := by rw [List.flatMap_append]; exact hR1.append hR2
  have hfl : (olds ++ news).length = (l.length + l2.length) * s := by rw [List.length_append, hlo, hln, Nat.add_mul]
  have main : ∃ cap, (Builtin.append_ #[t, t] ty #[.slice A l.length l.length, .slice (some ⟨b2, o2, none⟩) l2.length c2]).run P w = .ok (.slice (some ⟨w.heap.size, 0, none⟩) (l.length + l2.length) cap) (w.drew.alloc (.cells (olds.toArray ++ news.toArray ++ Builtin.zeroCells z.cells (cap - (l.length + l2.length))) E)) /\ l.length + l2.length <= cap /\ cap <= maxLen := by
   have hmx : l.length + l2.length <= maxLen := by simp only [maxLen]; omega
   have hge := grownCap_ge w (l.length + l2.length) l.length E;have hcm := grownCap_le_maxLen w (l.length + l2.length) l.length E hmx;have hcell : ∀ j u, news[j]? = some u -> w.cell? ((⟨b2, o2, none⟩ : Addr).add j) = some u := fun j u hu => by rw [zu]; exact hc2 j u hu
   cases hA : A with
   | none =>
    have hl0 : l = [] := by
     cases l with
     | nil => rfl
     | cons p r => obtain ⟨b, o, h, _⟩ := hold (by simp); rw [hA] at h; cases h
    subst hl0;have ho : olds = [] := List.eq_nil_of_length_eq_zero (by simpa using hlo);subst ho;have hr0 := run_append_nil (P := P) w t ty E i z hu hi1 hi2 ⟨b2, o2, none⟩ l2.length c2 news (by rw [hi3]; exact hln) hcell h2 (by omega) (by rw [hi4]; simp only [List.length_nil, Nat.zero_add] at hbb; omega);refine ⟨_, by simpa using hr0, ?_, ?_⟩
    ·simpa using hge
    ·simpa using hcm
   | some ad =>
    have hob : ∀ j u, olds[j]? = some u -> w.cell? (ad.add j) = some u := fun j u hu => by
     have hne : l ≠ [] := fun e => by
      subst e;have : olds = [] := List.eq_nil_of_length_eq_zero (by simpa using hlo);rw [this] at hu; simp at hu
     obtain ⟨b, o, h, hc⟩ := hold hne;rw [hA] at h; injection h with h; subst h;rw [zu]; exact hc j u hu
    have hr0 := run_append_grow (P := P) w t ty E i z hu hi1 hi2 ad l.length l.length olds (by rw [hi3]; exact hlo) hob ⟨b2, o2, none⟩ l2.length c2 news (by rw [hi3]; exact hln) hcell (by omega) (by omega) (growslice_fits (by omega) (by rw [hi4]; exact hbb));exact ⟨_, hr0, hge, hcm⟩
  obtain ⟨cap, hrun, hcg, hcm⟩ := main;have hg : Grow w (w.drew.alloc (.cells (olds.toArray ++ news.toArray ++ Builtin.zeroCells z.cells (cap - (l.length + l2.length))) E)) := (Grow.drew w).trans (Grow.alloc _ _);refine ⟨.slice (some ⟨w.heap.size, 0, none⟩) (l.length + l2.length) cap, _, g.nw C.d w.heap.size k (.slice (some ⟨w.heap.size, 0, none⟩) (l.length + l2.length) cap), ?_, Add.nw hg C.d k _, .own k _ _ _ (by simp [Gh.nw]), ImOB.nw ⟨hr.sat.im, hr.sat.ob⟩ hg (by simp) C.d k _, fun k' B hB => ?_⟩
  ·simp only [execOp, resolve, invoke, builtin, Sem.run_bind, Sem.run_pure, Result.andThen_ok, List.map_toArray, List.map_cons, List.map_nil, ex, ey, hrun]
  ·injection hB with hB; injection hB with e1 e2; subst e1; subst e2;refine ⟨olds ++ news, ?_, hsl, zaF hsl hRR, fun b hb => ?_⟩
   ·simp only [Gh.nw, if_true, List.length_append];refine ⟨hfl, .inr ⟨w.heap.size, cap, _, rfl, Nat.zero_le _, heap_alloc_new w.drew _, hcg, hcm, ?_, ?_⟩⟩
    ·simp only [Array.size_append, List.size_toArray, size_zeroCells, hi5, hlo, hln, ← Nat.add_mul];congr 1;omega
    ·simp only [Array.toList_append, List.append_assoc];rw [← List.append_assoc, ← hfl];exact List.take_left
   ·simp only [Gh.nw, if_true, yV] at hb;injection hb with hb; subst hb;exact ⟨by simp [Gh.nw], .inl hr.ext.size⟩
end
end Go.Rse
