/-
  The logic: parts Mens0, Mens1, Iter1, Iter2, Mens2.
-/
import Derived.Test.YtfiiobachmglpaaGreatDoorFTk
set_option linter.unusedSimpArgs false
set_option linter.unusedVariables false
namespace Go.Rse
open Go
def two3 (n : Int) : Prop := n = 2 \/ n = 3
instance (n : Int) : Decidable (two3 n) := inferInstanceAs (Decidable (_ \/ _))
def Mn.p (m : Mn) (v : Int) : Int := if v = 1 then m.Max else if v = 2 then m.Mod else if v = 3 then m.Tem else if v = 4 then m.Pro else 2
def Mn.Ok (m : Mn) : Prop := two3 m.Max /\ two3 m.Mod /\ two3 m.Tem /\ two3 m.Pro
instance (m : Mn) : Decidable m.Ok := inferInstanceAs (Decidable (_ /\ _ /\ _ /\ _))
def ckM (m : Mn) : Int := if m.Ok then 0 else 12
def ckMV (m : Mn) (v : Int) : Int := if m.Ok then (if 1 <= v /\ v <= 8 then 0 else 2) else 12
theorem zlV (m : Mn) (v : Int) (h1 : 1 <= v) (h2 : v <= 4) : (mnE m)[(v - 1).toNat]? = some (iv (m.p v)) := by
 have : v = 1 \/ v = 2 \/ v = 3 \/ v = 4 := by omega
 rcases this with rfl | rfl | rfl | rfl <;> rfl
theorem Mn.ok_iff (m : Mn) : m.Ok ↔ ∀ v : Int, 1 <= v -> v <= 4 -> two3 (m.p v) := by
 constructor
 ·rintro ⟨a, b, c, d⟩ v h1 h2
  have : v = 1 \/ v = 2 \/ v = 3 \/ v = 4 := by omega
  rcases this with rfl | rfl | rfl | rfl <;> assumption
 ·intro h;exact ⟨h 1 (by omega) (by omega), h 2 (by omega) (by omega), h 3 (by omega) (by omega), h 4 (by omega) (by omega)⟩
end Go.Rse
namespace Go.Rse
open Go Go.Proofs
attribute [local irreducible] Pur yK yM Ex X Fn Imp LeV LeB
theorem zfI (m : Mn) : Fn Tryz.prog 156 [mnA m] (mnA m) := by
 refine Fn.go Tryz.func156 Tryz.ntmps156 (fun g w d => ?_);apply yb;refine yH ?_;refine yJ ?_;apply yn;iterate 9 refine ya ?_
 refine yi ?_;apply Ex.nil;refine X.ret ?_;refine RetQ.ret (.one (.cellA rfl rfl rfl rfl zp7 (LeV.eq ?_)));all_goals (rfl)
theorem ziv (m : Mn) (v : Int) (h1 : 1 <= v) (h8 : v <= 8) : Fn Tryz.prog 171 [mnA m, iv v] (iv (m.p v)) := by
 refine Fn.go Tryz.func171 Tryz.ntmps171 (fun g w d => ?_);apply yb;refine yH ?_;refine ye ?_;apply yd;apply yb;refine yh ?_;refine yk rfl ?_ ?_<;>intro hc1
 ·apply yb;refine ye ?_;refine X.ret ?_;refine ym ?_;all_goals (first | rfl | (congr 1; unfold Mn.p; rw [if_neg (by omega), if_neg (by omega), if_neg (by omega), if_neg (by omega)]))
 have hp := zlV m v h1 hc1;apply yf;apply yb;refine ya ?_;refine yr (zfI m) ?_;iterate 2 refine ya ?_
 refine zbr (zi2 zn3 ty3 rfl rfl (by omega) (by omega) hp) rfl ?_;refine ye ?_;refine X.ret ?_;refine ym ?_;all_goals (first | rfl | (congr 1; unfold Mn.p; rw [if_neg (by omega), if_neg (by omega), if_neg (by omega), if_neg (by omega)]))
theorem zdf (m : Mn) : Fn Tryz.prog 88 [mnA m] (iv (ckM m)) := by
 refine Fn.go Tryz.func88 Tryz.ntmps88 (fun g w d => ?_);apply yb;refine yH ?_;refine ye ?_;apply yd;apply yb;refine ya ?_;refine yr (zfI m) ?_;refine ye ?_;apply X.block
 refine y9 (ι := Nat) (fun (k : Nat) => [(6, mnA m), (7, iv k)]) (fun (k : Nat) => []) (fun (k : Nat) => k <= 4 /\ ∀ v : Int, 1 <= v -> v <= k -> two3 (m.p v)) (fun (k : Nat) => 4 - k) 0 (fun k hk => ?_) (hJ := by
  exact ⟨by omega, fun v h1 h2 => by omega⟩)
 obtain ⟨hk1, hk2⟩ := hk;apply yb;refine ye ?_;apply yd;refine yk rfl ?_ ?_<;>intro hc1
 ·have hp := zlV m ((k : Int) + 1) (by omega) (by omega);rw [show ((k : Int) + 1 - 1) = (k : Int) by omega] at hp;apply yf;apply yd;apply X.block;apply yb;refine zbr (zi2 zn3 ty3 rfl rfl (by omega) (by omega) hp) rfl ?_;refine ya ?_;apply yn;iterate 2 refine ya ?_
  refine ExF.at 2 ?_;refine yC ?_;iterate 2 refine ExF.gi ?_
  refine yA ?_;refine ye ?_;refine yk rfl ?_ ?_<;>intro hc2
  ·apply yb;refine ye ?_;refine X.ret ?_;refine ym ?_;all_goals (congr 1; unfold ckM; rw [if_neg (fun h => by have := (m.ok_iff.1 h) (k + 1) (by omega) (by omega); unfold two3 at this; omega)])
  have hp2 : two3 (m.p ((k : Int) + 1)) := by unfold two3; omega
  apply yf;apply yc;refine yh ?_
  refine yL (k + 1) (hJ := by
   exact ⟨by omega, fun v h1 h2 => by
    by_cases e : v = k + 1
    ·rw [e]; exact hp2
    ·exact hk2 v h1 (by omega)⟩)
 ·apply X.exit;apply yb;refine ye ?_;refine X.ret ?_;refine ym ?_;all_goals (congr 1; unfold ckM; rw [if_pos (m.ok_iff.2 fun v h1 h2 => hk2 v h1 (by omega))])
theorem zch (m : Mn) (v : Int) : Fn Tryz.prog 97 [mnA m, iv v] (iv (ckMV m v)) := by
 refine Fn.go Tryz.func97 Tryz.ntmps97 (fun g w d => ?_);apply yb;refine yH ?_;refine ya ?_;apply yn;refine ya ?_;refine yr (zdf m) ?_;refine ye ?_;apply yd;apply yb;iterate 2 refine ya ?_
 refine ExF.at 2 ?_;refine yC ?_;iterate 6 refine ExF.gi ?_
 refine yA ?_;refine ye ?_;refine yk rfl ?_ ?_<;>intro hc1
 ·apply yb;refine ye ?_;refine X.ret ?_;refine ym ?_;all_goals (by_cases hm : m.Ok <;> simp_all [ckM, ckMV] <;> omega)
 apply yf;apply yb;refine yh ?_;refine X.ret ?_;refine ym ?_;all_goals (by_cases hm : m.Ok <;> simp_all [ckM, ckMV] <;> omega)
theorem zdg (m : Mn) (v : Int) : Fn Tryz.prog 151 [mnA m, iv v] (.tup [iv (if ckMV m v = 0 then m.p v else 0), iv (ckMV m v)]) := by
 refine Fn.go Tryz.func151 Tryz.ntmps151 (fun g w d => ?_);apply yb;refine yH ?_;refine yh ?_;apply yd;apply yb;iterate 2 refine ya ?_
 refine yr (zch m v) ?_;refine ya ?_;apply yn;refine yh ?_;refine yk rfl ?_ ?_<;>intro hc1
 ·apply yb;refine yp ?_;refine X.ret ?_;refine yz ?_ ?_;all_goals (first | rfl | (simp_all; done))
 apply yf;apply yb;iterate 2 refine ya ?_
 refine yr (ziv m v (by unfold ckMV at hc1; split at hc1 <;> omega) (by unfold ckMV at hc1; split at hc1 <;> omega)) ?_;refine yh ?_;refine X.ret ?_;refine yz ?_ ?_;all_goals (first | rfl | (simp_all; done))
end Go.Rse
namespace Go.Rse
open Go Go.Proofs
attribute [local irreducible] Pur yK yM Ex X Fn Imp LeV LeB FnO It yW
def zhA (l : List Int) : List (List AV) := (List.range l.length).map fun (j : Nat) => [iv ((l.length : Int) - 1 - (j : Int)), iv (l.getD (l.length - 1 - j) 0)]
theorem ziw {l : List Int} {k : Nat} (h : k < l.length) : (zhA l)[k]? = some [iv ((l.length : Int) - 1 - k), iv (l.getD (l.length - 1 - k) 0)] := by
 simp [zhA, h]
theorem zf9 {l : List Int} {j : Nat} {zs : List AV} (h : (zhA l)[j]? = some zs) : j < l.length /\ zs = [iv ((l.length : Int) - 1 - j), iv (l.getD (l.length - 1 - j) 0)] := by
 have hlt : j < l.length := by have := (List.getElem?_eq_some_iff.1 h).1; simpa [zhA] using this
 rw [ziw hlt] at h;exact ⟨hlt, by simpa using h.symm⟩
theorem zmq (l : List Int) : (zhA l).length = l.length := by simp [zhA]
theorem zbQ (l : List Int) (hl : l.length <= 4000000000) : It Tryz.prog 227 [.ept (fun _ : Unit => [.sl intE l]) () 0] (zhA l) := by
 refine It.intro (ts := fun lY => [(0, .yv lY), (1, .ept (fun _ : Unit => [.sl intE l]) () 0)]) (n := 19) (by kernel_rfl) Tryz.func227 rfl Tryz.ntmps227 rfl (fun _ => rfl) (by simp) (fun g w d ds Y lY hY => ?_);apply yb;refine yX ?_;apply X.block;refine y9 (ι := Nat) (fun (k : Nat) => [(0, .yv lY), (1, .ept (fun _ : Unit => [.sl intE l]) () 0), (3, iv ((l.length : Int) - 1 - k))]) (fun (k : Nat) => [(1000000, .yld k true)]) (fun (k : Nat) => k <= l.length) (fun (k : Nat) => l.length - k) 0 (fun k hk => ?_);apply yd;apply yb;refine yh ?_;refine yk rfl ?_ ?_<;>intro hc1
 ·have hlt : k < l.length := by omega
  have hu : l[((l.length : Int) - 1 - k).toNat]? = some (l.getD (l.length - 1 - k) 0) := by
   rw [show ((l.length : Int) - 1 - k).toNat = l.length - 1 - k by omega, List.getD_eq_getElem?_getD, lgg (by omega)]; rfl
  apply yf;apply yd;apply X.block;apply yb;iterate 6 refine ya ?_
  refine Ex.yield hY rfl rfl rfl (LeL.refl _) rfl rfl (ziw hlt) rfl (fun b => ?_);refine ye ?_;refine yk rfl ?_ ?_<;>intro hc2
  ·refine X.ret ?_;refine ⟨.inr rfl, _, b, rfl, fun hb => by simp_all⟩
  subst hc2;apply yf;apply yc;refine yp ?_;refine ⟨k + 1, yl, ?_, ?_⟩
  ·omega
  ·omega
 ·apply X.exit;refine ⟨.inl rfl, k, true, rfl, fun _ => by rw [zmq]; omega⟩
end Go.Rse
namespace Go.Rse
open Go Go.Proofs
attribute [local irreducible] Pur yK yM Ex X Fn Imp LeV LeB FnO It yW
theorem zck (l : List Int) : Fn Tryz.prog 159 [yg l] (.fn 227 [.ept (fun _ : Unit => [.sl intE l]) () 0]) := by
 refine Fn.go Tryz.func159 Tryz.ntmps159 (fun g w d => ?_);apply yb;refine zeH ?_;refine ya ?_;apply yn;refine yh ?_;refine X.ret ?_;refine yu (y8 (k := 1) rfl rfl) ?_;refine ym ?_;all_goals (first | rfl | (simp_all; done))
theorem zbj (l : List Int) (hl : l.length <= 4000000000) : FnO Tryz.prog 160 [yg l] [] [] (.own 5) [(5, .row intE l 3 1)] := by
 refine FnO.intro (ts := [(0, yg l)]) (rv := [.tmp 2]) (n := 8) (cs := []) (by kernel_rfl) Tryz.func160 rfl Tryz.ntmps160 rfl rfl (by simp) rfl rfl rfl rfl (fun g w d vs => ?_);apply yb;refine ye ?_;apply yd;apply yb;refine ya ?_;refine Ex.eqNil rfl sl27 rfl (fun b hb => ?_);apply Ex.nil;refine yk rfl ?_ ?_<;>intro hc1
 ·have hl0 := hb hc1;subst hl0;subst hc1;apply yb;refine ye ?_;refine X.ret ?_;refine zf1 (yZ intE 3 1 2 5 rfl rfl) ?_;refine zlm.mk (ts := [(2, .own 5)]) (.inr rfl) (yl) (.one (.tmp rfl (LeV.eq rfl)))
 apply yf;apply yb;refine yO intE [] ?_;refine ya ?_;refine yi ?_;refine ye ?_;refine X.ret ?_;refine zlm.mk (ts := [(2, .own 5)]) (.inr rfl) (yl) (.one (.tmp rfl (LeV.eq rfl)))
def perfL (m : Mn) : List Int := ([4, 3, 2, 1] : List Int).filter fun v => decide (m.p v = 3)
def zeL (m : Mn) : List (List AV) := (perfL m).map fun v => [iv v]
def pcnt (m : Mn) (j : Nat) : Nat := ((([4, 3, 2, 1] : List Int).take j).filter fun v => decide (m.p v = 3)).length
def mnL (m : Mn) : List Int := [m.Max, m.Mod, m.Tem, m.Pro]
theorem zoW (m : Mn) (j : Nat) (h : j < 4) : (mnL m).getD (4 - 1 - j) 0 = m.p (4 - j) := by
 have : j = 0 \/ j = 1 \/ j = 2 \/ j = 3 := by omega
 rcases this with rfl | rfl | rfl | rfl <;> rfl
theorem znQ (m : Mn) (j : Nat) (h : j < 4) (hp : m.p (4 - j) = 3) : (zeL m)[pcnt m j]? = some [iv (4 - j)] /\ pcnt m (j + 1) = pcnt m j + 1 := by
 have : j = 0 \/ j = 1 \/ j = 2 \/ j = 3 := by omega
 rcases this with rfl | rfl | rfl | rfl <;> simp at hp <;> simp [zeL, perfL, pcnt, List.filter_cons, hp]
 ·split <;> simp
 ·split <;> split <;> simp
 ·split <;> split <;> split <;> simp
theorem zoX (m : Mn) (j : Nat) (h : j < 4) (hp : ¬ m.p (4 - j) = 3) : pcnt m (j + 1) = pcnt m j := by
 have : j = 0 \/ j = 1 \/ j = 2 \/ j = 3 := by omega
 rcases this with rfl | rfl | rfl | rfl <;> simp at hp <;> simp [pcnt, List.filter_cons, hp]
theorem znR (m : Mn) : pcnt m 4 = (zeL m).length := by simp [zeL, perfL, pcnt]
theorem zcR (m : Mn) : It Tryz.prog 158 [.ept (fun _ : Unit => mnE m) () 0] (zeL m) := by
 refine It.intro (ts := fun lY => [(0, .yv lY), (1, .ept (fun _ : Unit => mnE m) () 0)]) (n := 29) (by kernel_rfl) Tryz.func158 rfl Tryz.ntmps158 rfl (fun _ => rfl) (by simp) (fun g w d ds Y lY hY => ?_);apply yb;refine zeH ?_;apply yn;refine yO intE [] ?_;iterate 8 refine ya ?_
 refine yO intE [_, _, _, _] ?_;refine yi ?_;refine ze (Imp.freeze (k := 5) rfl) ?_;refine za5 [(5, 16)] (zbj (mnL m) (by simp [mnL])) rfl rfl rfl (LeL.refl _) rfl rfl trivial rfl rfl rfl rfl ?_;refine ze (Imp.freeze (k := 16) rfl) ?_;refine Ex.call rfl rfl rfl (zck (mnL m)) rfl ?_;apply Ex.nil;apply X.block;refine X.range (sl := [2]) (fun j => ([.ptr 2 0 0 0], [(2, .box [.yv lY] 192), (1000000, .yld (pcnt m j) true)])) (fun j => True) 900001 900002 rfl rfl (by decide) (fun j zs hj => by obtain ⟨_, rfl⟩ := zf9 hj; rfl) (zbQ (mnL m) (by simp [mnL])) trivial rfl rfl (by decide) (Nat.le_refl _) (by simp) (fun j zs hj => by obtain ⟨_, rfl⟩ := zf9 hj; rfl) (fun _ => rfl) rfl rfl (fun l o us => yl) (trivial) (fun j zs hj hJ l ready busy rb vs g w hb hyB => ?_) (fun hJ => ?_)
 ·obtain ⟨hj4, rfl⟩ := zf9 hj;have hj4 : j < 4 := hj4;have hv : (mnL m).getD ((mnL m).length - 1 - j) 0 = m.p (4 - j) := zoW m j hj4;have hl4 : (mnL m).length = 4 := rfl;apply yb;refine ye ?_;apply yc;refine ye ?_;refine ⟨rfl, rfl, ?_⟩;apply X.block;apply yb;iterate 3 refine ya ?_
  refine zm7 (t := 22) true rfl (fun hg2 => ?_) (fun hg2 => ?_)
  ·refine zS ?_;(iterate 2 refine zS ?_);have hp3 : m.p (4 - j) = 3 := by rw [← hv]; simpa using hg2
   obtain ⟨hq1, hq2⟩ := znQ m j hj4 hp3;refine zbV hY rfl rfl rfl (fun _ => ⟨_, _, rfl, rfl, rfl, .cons (LeV.eq (by congr 1; omega)) .nil, rfl, rfl, hq1, fun b => ?_⟩) (fun h => absurd (h.symm.trans hg2) (by decide));refine zS ?_;refine ye ?_;refine yk rfl ?_ ?_<;>intro hc1
   ·subst hc1;refine X.ret ?_;refine ⟨[.ptr 2 0 0 0], [(2, .box [.yv lY] 192), (1000000, .yld (pcnt m j) false)], yl, ?_⟩;refine ⟨.inr rfl, _, false, rfl, fun hb => by simp at hb⟩
   subst hc1;apply yf;refine ⟨[.ptr 2 0 0 0], [(2, .box [.yv lY] 192), (1000000, .yld (pcnt m (j + 1)) true)], yl, rfl, trivial⟩
  ·refine zbl ?_;(iterate 4 refine zbl ?_);refine ye ?_;refine yk rfl ?_ ?_<;>intro hc2
   ·exact absurd hc2 (by decide)
   have hp3 : ¬ m.p (4 - j) = 3 := by rw [← hv]; simpa using hg2
   have hq2 := zoX m j hj4 hp3;apply yf;refine ⟨[.ptr 2 0 0 0], [(2, .box [.yv lY] 192), (1000000, .yld (pcnt m (j + 1)) true)], yl, rfl, trivial⟩
 refine ⟨.inl rfl, _, true, rfl, fun _ => znR m⟩
theorem zea (m : Mn) : Fn Tryz.prog 90 [mnA m] (.fn 158 [.ept (fun _ : Unit => mnE m) () 0]) := by
 refine Fn.go Tryz.func90 Tryz.ntmps90 (fun g w d => ?_);apply yb;refine yH ?_;refine ya ?_;apply yn;refine yh ?_;refine X.ret ?_;refine yu (y8 (k := 1) rfl rfl) ?_;refine ym ?_;all_goals (first | rfl | (simp_all; done))
end Go.Rse
namespace Go.Rse
open Go Go.Proofs
attribute [local irreducible] Pur yK yM Ex X Fn Imp LeV LeB FnO It yW
def Mn.ab (m : Mn) (v : Int) : Int := ((perfL m).find? fun k => decide (k < v)).getD 0
theorem zbX {m : Mn} {j : Nat} {zs : List AV} (h : (zeL m)[j]? = some zs) : ∃ k, (perfL m)[j]? = some k /\ zs = [iv k] := by
 rw [zeL, List.getElem?_map] at h;cases hk : (perfL m)[j]? with
 | none => simp [hk] at h
 | some k => simp [hk] at h; exact ⟨k, rfl, h.symm⟩
theorem zrg {m : Mn} {v : Int} {j : Nat} {k : Int} (h : (perfL m)[j]? = some k) (hJ : ∀ i, i < j -> ∀ k, (perfL m)[i]? = some k -> ¬ k < v) (hk : k < v) : m.ab v = k := by
 unfold Mn.ab;generalize perfL m = l at h hJ
 induction l generalizing j with
 | nil => simp at h
 | cons x r ih =>
  cases j with
  | zero => simp at h; subst h; simp [hk]
  | succ j =>
   have hx := hJ 0 (by omega) x (by simp);simp only [List.find?_cons, decide_eq_true_eq, decide_eq_false hx];exact ih (by simpa using h) (fun i hi k hk => hJ (i + 1) (by omega) k (by simpa using hk))
theorem zlW {m : Mn} {v : Int} (hJ : ∀ i, i < (perfL m).length -> ∀ k, (perfL m)[i]? = some k -> ¬ k < v) : m.ab v = 0 := by
 unfold Mn.ab;rw [List.find?_eq_none.2 (fun x hx => ?_)]
 ·rfl
 ·obtain ⟨i, hi⟩ := List.mem_iff_getElem?.1 hx;have := hJ i (List.getElem?_eq_some_iff.1 hi).1 x hi;simpa using this
theorem zfJ (m : Mn) (v : Int) : Fn Tryz.prog 152 [mnA m, iv v] (.tup [iv (if ckMV m v = 0 then m.ab v else 0), iv (ckMV m v)]) := by
 refine Fn.go Tryz.func152 Tryz.ntmps152 (fun g w d => ?_);apply yb;refine yH ?_;refine zeH ?_;iterate 2 refine yJ ?_
 apply Ex.nil;apply yd;apply yb;iterate 2 refine ya ?_
 refine yr (zch m v) ?_;refine ya ?_;apply yn;refine yh ?_;refine yk rfl ?_ ?_<;>intro hc1
 ·apply yb;refine ya ?_;iterate 2 refine yi ?_
  apply Ex.nil;refine X.ret ?_;refine RetQ.ret (.many (by decide) (.cons (.cellS rfl rfl rfl ty3 (LeV.eq ?_)) (.cons (.cellS rfl rfl rfl ty28 (LeV.eq ?_)) .nil)));all_goals (first | (simp_all; done))
 apply yf;apply yd;apply yb;refine ya ?_;refine yr (zea m) ?_;apply Ex.nil;apply X.block;refine X.range (sl := [3, 4, 5]) (fun j => ([.ptr 3 0 0 0, .ptr 4 0 0 0, .ptr 5 0 0 0], [(3, .box [iv v] 3), (4, .box [iv 0] 3), (5, .box [iv 0] 28)])) (fun j => ∀ i, i < j -> ∀ k, (perfL m)[i]? = some k -> ¬ k < v) 900001 900002 rfl rfl (by decide) (fun j zs hj => by obtain ⟨k, _, rfl⟩ := zbX hj; rfl) (zcR m) trivial rfl rfl (by decide) (Nat.zero_le _) (by simp) (fun j zs hj => by obtain ⟨k, _, rfl⟩ := zbX hj; rfl) (fun _ => rfl) rfl rfl (fun l o us => yl) (fun i hi => absurd hi (Nat.not_lt_zero i)) (fun j zs hj hJ l ready busy rb vs g w hb hyB => ?_) (fun hJ => ?_)
 ·obtain ⟨k, hk, rfl⟩ := zbX hj;apply yc;refine ye ?_;refine ⟨rfl, rfl, ?_⟩;apply X.block;apply yb;refine yp ?_;refine yk rfl ?_ ?_<;>intro hc2
  ·apply yb;refine ya ?_;(iterate 2 refine yi ?_);apply Ex.nil;refine X.ret ?_;refine ⟨[.ptr 3 0 0 0, .ptr 4 0 0 0, .ptr 5 0 0 0], [(3, .box [iv v] 3), (4, .box [iv k] 3), (5, .box [iv 0] 28)], yl, ?_⟩;refine RetQ.ret (.many (by decide) (.cons (.cellS rfl rfl rfl ty3 (LeV.eq ?_)) (.cons (.cellS rfl rfl rfl ty28 (LeV.eq ?_)) .nil)));all_goals (first | (simp only [hc1, if_true]; rw [zrg hk hJ hc2]; done) | (simp_all; done))
  apply yf;refine ⟨[.ptr 3 0 0 0, .ptr 4 0 0 0, .ptr 5 0 0 0], [(3, .box [iv v] 3), (4, .box [iv 0] 3), (5, .box [iv 0] 28)], yl, rfl, fun i hi k2 hk2 => by
 rcases Nat.lt_succ_iff_lt_or_eq.1 hi with h | h
 ·exact hJ i h k2 hk2
 ·subst h; rw [hk] at hk2; injection hk2 with hk2; subst hk2; omega⟩
 apply yb;iterate 2 refine yi ?_
 apply Ex.nil;refine X.ret ?_;refine RetQ.ret (.many (by decide) (.cons (.cellS rfl rfl rfl ty3 (LeV.eq ?_)) (.cons (.cellS rfl rfl rfl ty28 (LeV.eq ?_)) .nil)));all_goals (first | (simp only [hc1, if_true]; rw [zlW (by simpa [zeL] using hJ)]; done) | (simp_all; done))
end Go.Rse
