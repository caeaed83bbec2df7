/-
  The logic: parts Mens0, Mens1, Iter1, Iter2, Mens2.
-/
import Derived.Test.YtbilklnipfabpaaGreatDoorPTk
import Derived.Test.YtbilklnipfabpaaGreatDoorPJShelf1
import Derived.Test.YtbilklnipfabpaaGreatDoorPLogB
set_option linter.unusedSimpArgs false
set_option linter.unusedVariables false
namespace Go.Rse
open Go
def two3 (n : Int) : Prop := n = 2 \/ n = 3
instance (n : Int) : Decidable (two3 n) := inferInstanceAs (Decidable (_ \/ _))
def Mn.p (m : Mn) (v : Int) : Int := if v = 1 then m.Max else if v = 2 then m.Mod else if v = 3 then m.Tem else if v = 4 then m.Pro else 2
def Mn.Ok (m : Mn) : Prop := two3 m.Max /\ two3 m.Mod /\ two3 m.Tem /\ two3 m.Pro
instance (m : Mn) : Decidable m.Ok := inferInstanceAs (Decidable (_ /\ _ /\ _ /\ _))
def ckM (m : Mn) : Int := if m.Ok then 0 else 12
def ckMV (m : Mn) (v : Int) : Int := if m.Ok then (if 1 <= v /\ v <= 8 then 0 else 2) else 12
theorem zkE (m : Mn) (v : Int) (h1 : 1 <= v) (h2 : v <= 4) : (mnE m)[(v - 1).toNat]? = some (iv (m.p v)) := by
 have : v = 1 \/ v = 2 \/ v = 3 \/ v = 4 := by omega
 rcases this with rfl | rfl | rfl | rfl <;> rfl
theorem Mn.ok_iff (m : Mn) : m.Ok ↔ ∀ v : Int, 1 <= v -> v <= 4 -> two3 (m.p v) := by
 constructor
 ·rintro ⟨a, b, c, d⟩ v h1 h2
  have : v = 1 \/ v = 2 \/ v = 3 \/ v = 4 := by omega
  rcases this with rfl | rfl | rfl | rfl <;> assumption
 ·intro h;exact ⟨h 1 (by omega) (by omega), h 2 (by omega) (by omega), h 3 (by omega) (by omega), h 4 (by omega) (by omega)⟩
end Go.Rse
namespace Go.Rse
open Go Go.Proofs
attribute [local irreducible] Pur yx yz Ex X Fn Imp LeV LeB
theorem zeh (m : Mn) : Fn Tryz.prog 118 [mnA m] (mnA m) := by
 refine Fn.go Tryz.func118 Tryz.ntmps118 (fun g w d => ?_);apply yb;refine yF ?_;refine yH ?_;apply yj;iterate 9 refine ya ?_
 refine Ex.mo ?_;apply Ex.nil;refine X.ret ?_;refine RetQ.ret (.one (.cellA rfl rfl rfl rfl zp6 (LeV.eq ?_)));all_goals (rfl)
theorem zhb (m : Mn) (v : Int) (h1 : 1 <= v) (h8 : v <= 8) : Fn Tryz.prog 168 [mnA m, iv v] (iv (m.p v)) := by
 refine Fn.go Tryz.func168 Tryz.ntmps168 (fun g w d => ?_);apply yb;refine yF ?_;refine ye ?_;apply yd;apply yb;refine yh ?_;refine yk rfl ?_ ?_<;>intro hc1
 ·apply yb;refine ye ?_;refine X.ret ?_;refine ym ?_;all_goals (first | rfl | (congr 1; unfold Mn.p; rw [if_neg (by omega), if_neg (by omega), if_neg (by omega), if_neg (by omega)]))
 have hp := zkE m v h1 hc1;apply yf;apply yb;refine ya ?_;refine yq (zeh m) ?_;iterate 2 refine ya ?_
 refine zO (zig znK ty3 rfl rfl (by omega) (by omega) hp) rfl ?_;refine ye ?_;refine X.ret ?_;refine ym ?_;all_goals (first | rfl | (congr 1; unfold Mn.p; rw [if_neg (by omega), if_neg (by omega), if_neg (by omega), if_neg (by omega)]))
theorem zcf (m : Mn) : Fn Tryz.prog 73 [mnA m] (iv (ckM m)) := by
 refine Fn.go Tryz.func73 Tryz.ntmps73 (fun g w d => ?_);apply yb;refine yF ?_;refine ye ?_;apply yd;apply yb;refine ya ?_;refine yq (zeh m) ?_;refine ye ?_;apply X.block
 refine zh (ι := Nat) (fun (k : Nat) => [(6, mnA m), (7, iv k)]) (fun (k : Nat) => []) (fun (k : Nat) => k <= 4 /\ ∀ v : Int, 1 <= v -> v <= k -> two3 (m.p v)) (fun (k : Nat) => 4 - k) 0 (fun k hk => ?_) (hJ := by
  exact ⟨by omega, fun v h1 h2 => by omega⟩)
 obtain ⟨hk1, hk2⟩ := hk;apply yb;refine ye ?_;apply yd;refine yk rfl ?_ ?_<;>intro hc1
 ·have hp := zkE m ((k : Int) + 1) (by omega) (by omega);rw [show ((k : Int) + 1 - 1) = (k : Int) by omega] at hp;apply yf;apply yd;apply X.block;apply yb;refine zO (zig znK ty3 rfl rfl (by omega) (by omega) hp) rfl ?_;refine ya ?_;apply yj;iterate 2 refine ya ?_
  refine ExF.at 2 ?_;refine yI ?_;iterate 2 refine ExF.gi ?_
  refine yA ?_;refine ye ?_;refine yk rfl ?_ ?_<;>intro hc2
  ·apply yb;refine ye ?_;refine X.ret ?_;refine ym ?_;all_goals (congr 1; unfold ckM; rw [if_neg (fun h => by have := (m.ok_iff.1 h) (k + 1) (by omega) (by omega); unfold two3 at this; omega)])
  have hp2 : two3 (m.p ((k : Int) + 1)) := by unfold two3; omega
  apply yf;apply yc;refine yh ?_
  refine yP (k + 1) (hJ := by
   exact ⟨by omega, fun v h1 h2 => by
    by_cases e : v = k + 1
    ·rw [e]; exact hp2
    ·exact hk2 v h1 (by omega)⟩)
 ·apply X.exit;apply yb;refine ye ?_;refine X.ret ?_;refine ym ?_;all_goals (congr 1; unfold ckM; rw [if_pos (m.ok_iff.2 fun v h1 h2 => hk2 v h1 (by omega))])
theorem zbq (m : Mn) (v : Int) : Fn Tryz.prog 164 [mnA m, iv v] (iv (ckMV m v)) := by
 refine Fn.go Tryz.func164 Tryz.ntmps164 (fun g w d => ?_);apply yb;refine yF ?_;refine ya ?_;apply yj;refine ya ?_;refine yq (zcf m) ?_;refine ye ?_;apply yd;apply yb;iterate 2 refine ya ?_
 refine ExF.at 2 ?_;refine yI ?_;iterate 6 refine ExF.gi ?_
 refine yA ?_;refine ye ?_;refine yk rfl ?_ ?_<;>intro hc1
 ·apply yb;refine ye ?_;refine X.ret ?_;refine ym ?_;all_goals (by_cases hm : m.Ok <;> simp_all [ckM, ckMV] <;> omega)
 apply yf;apply yb;refine yh ?_;refine X.ret ?_;refine ym ?_;all_goals (by_cases hm : m.Ok <;> simp_all [ckM, ckMV] <;> omega)
theorem zei (m : Mn) (v : Int) : Fn Tryz.prog 119 [mnA m, iv v] (.tup [iv (if ckMV m v = 0 then m.p v else 0), iv (ckMV m v)]) := by
 refine Fn.go Tryz.func119 Tryz.ntmps119 (fun g w d => ?_);apply yb;refine yF ?_;refine yh ?_;apply yd;apply yb;iterate 2 refine ya ?_
 refine yq (zbq m v) ?_;refine ya ?_;apply yj;refine yh ?_;refine yk rfl ?_ ?_<;>intro hc1
 ·apply yb;refine yn ?_;refine X.ret ?_;refine yu ?_ ?_;all_goals (first | rfl | (simp_all; done))
 apply yf;apply yb;iterate 2 refine ya ?_
 refine yq (zhb m v (by unfold ckMV at hc1; split at hc1 <;> omega) (by unfold ckMV at hc1; split at hc1 <;> omega)) ?_;refine yh ?_;refine X.ret ?_;refine yu ?_ ?_;all_goals (first | rfl | (simp_all; done))
end Go.Rse
namespace Go.Rse
open Go Go.Proofs
attribute [local irreducible] Pur yx yz Ex X Fn Imp LeV LeB FnO It yC
def zgf (l : List Int) : List (List AV) := (List.range l.length).map fun (j : Nat) => [iv ((l.length : Int) - 1 - (j : Int)), iv (l.getD (l.length - 1 - j) 0)]
theorem zhc {l : List Int} {k : Nat} (h : k < l.length) : (zgf l)[k]? = some [iv ((l.length : Int) - 1 - k), iv (l.getD (l.length - 1 - k) 0)] := by
 simp [zgf, h]
theorem zeI {l : List Int} {j : Nat} {zs : List AV} (h : (zgf l)[j]? = some zs) : j < l.length /\ zs = [iv ((l.length : Int) - 1 - j), iv (l.getD (l.length - 1 - j) 0)] := by
 have hlt : j < l.length := by have := (List.getElem?_eq_some_iff.1 h).1; simpa [zgf] using this
 rw [zhc hlt] at h;exact ⟨hlt, by simpa using h.symm⟩
theorem zlr (l : List Int) : (zgf l).length = l.length := by simp [zgf]
theorem zbc (l : List Int) (hl : l.length <= 4000000000) : It Tryz.prog 178 [.ept (fun _ : Unit => [.sl intE l]) () 0] (zgf l) := by
 refine It.intro (ts := fun lY => [(0, .yv lY), (1, .ept (fun _ : Unit => [.sl intE l]) () 0)]) (n := 19) (by kernel_rfl) Tryz.func178 rfl Tryz.ntmps178 rfl (fun _ => rfl) (by simp) (fun g w d ds Y lY hY => ?_);apply yb;refine zT ?_;apply X.block;refine zh (ι := Nat) (fun (k : Nat) => [(0, .yv lY), (1, .ept (fun _ : Unit => [.sl intE l]) () 0), (3, iv ((l.length : Int) - 1 - k))]) (fun (k : Nat) => [(1000000, .yld k true)]) (fun (k : Nat) => k <= l.length) (fun (k : Nat) => l.length - k) 0 (fun k hk => ?_);apply yd;apply yb;refine yh ?_;refine yk rfl ?_ ?_<;>intro hc1
 ·have hlt : k < l.length := by omega
  have hu : l[((l.length : Int) - 1 - k).toNat]? = some (l.getD (l.length - 1 - k) 0) := by
   rw [show ((l.length : Int) - 1 - k).toNat = l.length - 1 - k by omega, List.getD_eq_getElem?_getD, lgg (by omega)]; rfl
  apply yf;apply yd;apply X.block;apply yb;iterate 6 refine ya ?_
  refine Ex.yield hY rfl rfl rfl (LeL.refl _) rfl rfl (zhc hlt) rfl (fun b => ?_);refine ye ?_;refine yk rfl ?_ ?_<;>intro hc2
  ·refine X.ret ?_;refine ⟨.inr rfl, _, b, rfl, fun hb => by simp_all⟩
  subst hc2;apply yf;apply yc;refine yn ?_;refine ⟨k + 1, yi, ?_, ?_⟩
  ·omega
  ·omega
 ·apply X.exit;refine ⟨.inl rfl, k, true, rfl, fun _ => by rw [zlr]; omega⟩
end Go.Rse
namespace Go.Rse
open Go Go.Proofs
attribute [local irreducible] Pur yx yz Ex X Fn Imp LeV LeB FnO It yC
theorem zbB (l : List Int) : Fn Tryz.prog 138 [yg l] (.fn 178 [.ept (fun _ : Unit => [.sl intE l]) () 0]) := by
 refine Fn.go Tryz.func138 Tryz.ntmps138 (fun g w d => ?_);apply yb;refine zcu ?_;refine ya ?_;apply yj;refine yh ?_;refine X.ret ?_;refine RetQ.imp (yU (k := 1) rfl rfl) ?_;refine ym ?_;all_goals (first | rfl | (simp_all; done))
theorem zq (l : List Int) (hl : l.length <= 4000000000) : FnO Tryz.prog 68 [yg l] [] [] (.own 5) [(5, .row intE l 3 1)] := by
 refine FnO.intro (ts := [(0, yg l)]) (rv := [.tmp 2]) (n := 8) (cs := []) (by kernel_rfl) Tryz.func68 rfl Tryz.ntmps68 rfl rfl (by simp) rfl rfl rfl rfl (fun g w d vs => ?_);apply yb;refine ye ?_;apply yd;apply yb;refine ya ?_;refine Ex.eqNil rfl sl22 rfl (fun b hb => ?_);apply Ex.nil;refine yk rfl ?_ ?_<;>intro hc1
 ·have hl0 := hb hc1;subst hl0;subst hc1;apply yb;refine ye ?_;refine X.ret ?_;refine zkW.imp (y5 intE 3 1 2 5 rfl rfl) ?_;refine zkW.mk (ts := [(2, .own 5)]) (.inr rfl) (yi) (.one (.tmp rfl (LeV.eq rfl)))
 apply yf;apply yb;refine y2 intE [] ?_;refine ya ?_;refine Ex.mo ?_;refine ye ?_;refine X.ret ?_;refine zkW.mk (ts := [(2, .own 5)]) (.inr rfl) (yi) (.one (.tmp rfl (LeV.eq rfl)))
def perfL (m : Mn) : List Int := ([4, 3, 2, 1] : List Int).filter fun v => decide (m.p v = 3)
def zdx (m : Mn) : List (List AV) := (perfL m).map fun v => [iv v]
def pcnt (m : Mn) (j : Nat) : Nat := ((([4, 3, 2, 1] : List Int).take j).filter fun v => decide (m.p v = 3)).length
def mnL (m : Mn) : List Int := [m.Max, m.Mod, m.Tem, m.Pro]
theorem zoK (m : Mn) (j : Nat) (h : j < 4) : (mnL m).getD (4 - 1 - j) 0 = m.p (4 - j) := by
 have : j = 0 \/ j = 1 \/ j = 2 \/ j = 3 := by omega
 rcases this with rfl | rfl | rfl | rfl <;> rfl
theorem zmY (m : Mn) (j : Nat) (h : j < 4) (hp : m.p (4 - j) = 3) : (zdx m)[pcnt m j]? = some [iv (4 - j)] /\ pcnt m (j + 1) = pcnt m j + 1 := by
 have : j = 0 \/ j = 1 \/ j = 2 \/ j = 3 := by omega
 rcases this with rfl | rfl | rfl | rfl <;> simp at hp <;> simp [zdx, perfL, pcnt, List.filter_cons, hp]
 ·split <;> simp
 ·split <;> split <;> simp
 ·split <;> split <;> split <;> simp
theorem zoL (m : Mn) (j : Nat) (h : j < 4) (hp : ¬ m.p (4 - j) = 3) : pcnt m (j + 1) = pcnt m j := by
 have : j = 0 \/ j = 1 \/ j = 2 \/ j = 3 := by omega
 rcases this with rfl | rfl | rfl | rfl <;> simp at hp <;> simp [pcnt, List.filter_cons, hp]
theorem zmZ (m : Mn) : pcnt m 4 = (zdx m).length := by simp [zdx, perfL, pcnt]
theorem zb1 (m : Mn) : It Tryz.prog 137 [.ept (fun _ : Unit => mnE m) () 0] (zdx m) := by
 refine It.intro (ts := fun lY => [(0, .yv lY), (1, .ept (fun _ : Unit => mnE m) () 0)]) (n := 29) (by kernel_rfl) Tryz.func137 rfl Tryz.ntmps137 rfl (fun _ => rfl) (by simp) (fun g w d ds Y lY hY => ?_);apply yb;refine zcu ?_;apply yj;refine y2 intE [] ?_;iterate 8 refine ya ?_
 refine y2 intE [_, _, _, _] ?_;refine Ex.mo ?_;refine Ex.imp (Imp.freeze (k := 5) rfl) ?_;refine zah [(5, 16)] (zq (mnL m) (by simp [mnL])) rfl rfl rfl (LeL.refl _) rfl rfl trivial rfl rfl rfl rfl ?_;refine Ex.imp (Imp.freeze (k := 16) rfl) ?_;refine Ex.call rfl rfl rfl (zbB (mnL m)) rfl ?_;apply Ex.nil;apply X.block;refine X.range (sl := [2]) (fun j => ([.ptr 2 0 0 0], [(2, .box [.yv lY] 194), (1000000, .yld (pcnt m j) true)])) (fun j => True) 900001 900002 rfl rfl (by decide) (fun j zs hj => by obtain ⟨_, rfl⟩ := zeI hj; rfl) (zbc (mnL m) (by simp [mnL])) trivial rfl rfl (by decide) (Nat.le_refl _) (by simp) (fun j zs hj => by obtain ⟨_, rfl⟩ := zeI hj; rfl) (fun _ => rfl) rfl rfl (fun l o us => yi) (trivial) (fun j zs hj hJ l ready busy rb vs g w hb hyB => ?_) (fun hJ => ?_)
 ·obtain ⟨hj4, rfl⟩ := zeI hj;have hj4 : j < 4 := hj4;have hv : (mnL m).getD ((mnL m).length - 1 - j) 0 = m.p (4 - j) := zoK m j hj4;have hl4 : (mnL m).length = 4 := rfl;apply yb;refine ye ?_;apply yc;refine ye ?_;refine ⟨rfl, rfl, ?_⟩;apply X.block;apply yb;iterate 3 refine ya ?_
  refine znk (t := 22) true rfl (fun hg2 => ?_) (fun hg2 => ?_)
  ·refine zx ?_;(iterate 2 refine zx ?_);have hp3 : m.p (4 - j) = 3 := by rw [← hv]; simpa using hg2
   obtain ⟨hq1, hq2⟩ := zmY m j hj4 hp3;refine zbk hY rfl rfl rfl (fun _ => ⟨_, _, rfl, rfl, rfl, .cons (LeV.eq (by congr 1; omega)) .nil, rfl, rfl, hq1, fun b => ?_⟩) (fun h => absurd (h.symm.trans hg2) (by decide));refine zx ?_;refine ye ?_;refine yk rfl ?_ ?_<;>intro hc1
   ·subst hc1;refine X.ret ?_;refine ⟨[.ptr 2 0 0 0], [(2, .box [.yv lY] 194), (1000000, .yld (pcnt m j) false)], yi, ?_⟩;refine ⟨.inr rfl, _, false, rfl, fun hb => by simp at hb⟩
   subst hc1;apply yf;refine ⟨[.ptr 2 0 0 0], [(2, .box [.yv lY] 194), (1000000, .yld (pcnt m (j + 1)) true)], yi, rfl, trivial⟩
  ·refine zaJ ?_;(iterate 4 refine zaJ ?_);refine ye ?_;refine yk rfl ?_ ?_<;>intro hc2
   ·exact absurd hc2 (by decide)
   have hp3 : ¬ m.p (4 - j) = 3 := by rw [← hv]; simpa using hg2
   have hq2 := zoL m j hj4 hp3;apply yf;refine ⟨[.ptr 2 0 0 0], [(2, .box [.yv lY] 194), (1000000, .yld (pcnt m (j + 1)) true)], yi, rfl, trivial⟩
 refine ⟨.inl rfl, _, true, rfl, fun _ => zmZ m⟩
theorem zcM (m : Mn) : Fn Tryz.prog 97 [mnA m] (.fn 137 [.ept (fun _ : Unit => mnE m) () 0]) := by
 refine Fn.go Tryz.func97 Tryz.ntmps97 (fun g w d => ?_);apply yb;refine yF ?_;refine ya ?_;apply yj;refine yh ?_;refine X.ret ?_;refine RetQ.imp (yU (k := 1) rfl rfl) ?_;refine ym ?_;all_goals (first | rfl | (simp_all; done))
end Go.Rse
namespace Go.Rse
open Go Go.Proofs
attribute [local irreducible] Pur yx yz Ex X Fn Imp LeV LeB FnO It yC
def Mn.ab (m : Mn) (v : Int) : Int := ((perfL m).find? fun k => decide (k < v)).getD 0
theorem zbi {m : Mn} {j : Nat} {zs : List AV} (h : (zdx m)[j]? = some zs) : ∃ k, (perfL m)[j]? = some k /\ zs = [iv k] := by
 rw [zdx, List.getElem?_map] at h;cases hk : (perfL m)[j]? with
 | none => simp [hk] at h
 | some k => simp [hk] at h; exact ⟨k, rfl, h.symm⟩
theorem zrb {m : Mn} {v : Int} {j : Nat} {k : Int} (h : (perfL m)[j]? = some k) (hJ : ∀ i, i < j -> ∀ k, (perfL m)[i]? = some k -> ¬ k < v) (hk : k < v) : m.ab v = k := by
 unfold Mn.ab;generalize perfL m = l at h hJ
 induction l generalizing j with
 | nil => simp at h
 | cons x r ih =>
  cases j with
  | zero => simp at h; subst h; simp [hk]
  | succ j =>
   have hx := hJ 0 (by omega) x (by simp);simp only [List.find?_cons, decide_eq_true_eq, decide_eq_false hx];exact ih (by simpa using h) (fun i hi k hk => hJ (i + 1) (by omega) k (by simpa using hk))
theorem zoM {m : Mn} {v : Int} (hJ : ∀ i, i < (perfL m).length -> ∀ k, (perfL m)[i]? = some k -> ¬ k < v) : m.ab v = 0 := by
 unfold Mn.ab;rw [List.find?_eq_none.2 (fun x hx => ?_)]
 ·rfl
 ·obtain ⟨i, hi⟩ := List.mem_iff_getElem?.1 hx;have := hJ i (List.getElem?_eq_some_iff.1 hi).1 x hi;simpa using this
theorem zh5 (m : Mn) (v : Int) : Fn Tryz.prog 123 [mnA m, iv v] (.tup [iv (if ckMV m v = 0 then m.ab v else 0), iv (ckMV m v)]) := by
 refine Fn.go Tryz.func123 Tryz.ntmps123 (fun g w d => ?_);apply yb;refine yF ?_;refine zcu ?_;iterate 2 refine yH ?_
 apply Ex.nil;apply yd;apply yb;iterate 2 refine ya ?_
 refine yq (zbq m v) ?_;refine ya ?_;apply yj;refine yh ?_;refine yk rfl ?_ ?_<;>intro hc1
 ·apply yb;refine ya ?_;iterate 2 refine Ex.mo ?_
  apply Ex.nil;refine X.ret ?_;refine RetQ.ret (.many (by decide) (.cons (.cellS rfl rfl rfl ty3 (LeV.eq ?_)) (.cons (.cellS rfl rfl rfl ty29 (LeV.eq ?_)) .nil)));all_goals (first | (simp_all; done))
 apply yf;apply yd;apply yb;refine ya ?_;refine yq (zcM m) ?_;apply Ex.nil;apply X.block;refine X.range (sl := [3, 4, 5]) (fun j => ([.ptr 3 0 0 0, .ptr 4 0 0 0, .ptr 5 0 0 0], [(3, .box [iv v] 3), (4, .box [iv 0] 3), (5, .box [iv 0] 29)])) (fun j => ∀ i, i < j -> ∀ k, (perfL m)[i]? = some k -> ¬ k < v) 900001 900002 rfl rfl (by decide) (fun j zs hj => by obtain ⟨k, _, rfl⟩ := zbi hj; rfl) (zb1 m) trivial rfl rfl (by decide) (Nat.zero_le _) (by simp) (fun j zs hj => by obtain ⟨k, _, rfl⟩ := zbi hj; rfl) (fun _ => rfl) rfl rfl (fun l o us => yi) (fun i hi => absurd hi (Nat.not_lt_zero i)) (fun j zs hj hJ l ready busy rb vs g w hb hyB => ?_) (fun hJ => ?_)
 ·obtain ⟨k, hk, rfl⟩ := zbi hj;apply yc;refine ye ?_;refine ⟨rfl, rfl, ?_⟩;apply X.block;apply yb;refine yn ?_;refine yk rfl ?_ ?_<;>intro hc2
  ·apply yb;refine ya ?_;(iterate 2 refine Ex.mo ?_);apply Ex.nil;refine X.ret ?_;refine ⟨[.ptr 3 0 0 0, .ptr 4 0 0 0, .ptr 5 0 0 0], [(3, .box [iv v] 3), (4, .box [iv k] 3), (5, .box [iv 0] 29)], yi, ?_⟩;refine RetQ.ret (.many (by decide) (.cons (.cellS rfl rfl rfl ty3 (LeV.eq ?_)) (.cons (.cellS rfl rfl rfl ty29 (LeV.eq ?_)) .nil)));all_goals (first | (simp only [hc1, if_true]; rw [zrb hk hJ hc2]; done) | (simp_all; done))
  apply yf;refine ⟨[.ptr 3 0 0 0, .ptr 4 0 0 0, .ptr 5 0 0 0], [(3, .box [iv v] 3), (4, .box [iv 0] 3), (5, .box [iv 0] 29)], yi, rfl, fun i hi k2 hk2 => by
 rcases Nat.lt_succ_iff_lt_or_eq.1 hi with h | h
 ·exact hJ i h k2 hk2
 ·subst h; rw [hk] at hk2; injection hk2 with hk2; subst hk2; omega⟩
 apply yb;iterate 2 refine Ex.mo ?_
 apply Ex.nil;refine X.ret ?_;refine RetQ.ret (.many (by decide) (.cons (.cellS rfl rfl rfl ty3 (LeV.eq ?_)) (.cons (.cellS rfl rfl rfl ty29 (LeV.eq ?_)) .nil)));all_goals (first | (simp only [hc1, if_true]; rw [zoM (by simpa [zdx] using hJ)]; done) | (simp_all; done))
end Go.Rse
namespace Go.Rse
open Go Go.Proofs
attribute [local irreducible] Pur yx yz Ex X Fn Imp LeV LeB FnO It yC
def coll (p : Int -> Bool) (l : List Int) : List Int := Lib.compact (srtI (dl (fun v => !p v) l))
theorem zej (p : Int -> Bool) (l : List Int) : (coll p l).length <= l.length := Nat.le_trans (Lib.compact_length_le _) (by rw [zek]; exact List.length_filter_le _ _)
theorem ze2 (p : Int -> Bool) (l : List Int) : (dl p l).length <= l.length := List.length_filter_le _ _
theorem zdr (fp : FuncId) (p : Int -> Bool) (v : Int) (hp : Fn Tryz.prog fp [iv v] (.bool (p v))) : Fn Tryz.prog 170 [iv v, .ept (fun _ : Unit => [.fn fp []]) () 0] (.bool (!p v)) := by
 refine Fn.go Tryz.func170 Tryz.ntmps170 (fun g w d => ?_);apply yb;refine ya ?_;apply yj;iterate 2 refine ya ?_
 refine yq hp ?_;refine yh ?_;refine X.ret ?_;refine ym ?_;all_goals (first | rfl | (simp_all; done))
theorem zaC (l : List Int) (hl : l.length <= 4000000000) (fp : FuncId) (p : Int -> Bool) (hp : ∀ v, v ∈ l -> Fn Tryz.prog fp [iv v] (.bool (p v))) : Fn Tryz.prog 125 [yg l, .fn fp []] (yg (coll p l)) := by
 refine Fn.go Tryz.func125 Tryz.ntmps125 (fun g w d => ?_);apply yb;refine zcu ?_;refine ya ?_;apply yj;refine ya ?_;refine zah [(5, 6)] (zq l hl) rfl rfl rfl (LeL.refl _) rfl rfl trivial rfl rfl rfl rfl ?_;refine Ex.imp (yU (k := 3) rfl rfl) ?_;refine zO (zdM rfl) rfl ?_;refine zah [(2000000, 6), (2000002, 8)] (zdQ 2000002 (zbd l hl 170 [.ept (fun _ : Unit => [.fn fp []]) () 0] (fun v => !p v) rfl (fun v hv => zdr fp p v (hp v hv))) rfl) rfl rfl rfl (LeL.refl _) rfl rfl ⟨⟨_, _, rfl, rfl, LeB.refl _, rfl⟩, trivial⟩ rfl rfl rfl rfl ?_;refine ya ?_;apply yj;refine ya ?_;refine zah [(2000000, 8)] (zcx (dl (fun v => !p v) l) (Nat.le_trans (ze2 _ _) hl)) rfl rfl rfl (LeL.refl _) rfl rfl ⟨⟨_, _, rfl, rfl, LeB.refl _, rfl⟩, trivial⟩ rfl rfl rfl rfl ?_;apply yj;refine ya ?_;refine zah [(2000000, 8), (2000002, 12)] (zdQ 2000002 (zbR (srtI (dl (fun v => !p v) l)) (by rw [zek]; exact Nat.le_trans (ze2 _ _) hl)) rfl) rfl rfl rfl (LeL.refl _) rfl rfl ⟨⟨_, _, rfl, rfl, LeB.refl _, rfl⟩, trivial⟩ rfl rfl rfl rfl ?_;refine ye ?_;refine X.ret ?_;refine RetQ.imp (Imp.freeze (k := 12) rfl) ?_;refine ym ?_;all_goals (first | rfl | (simp_all; done))
def Mn.aV (m : Mn) (v : Int) : Int := if ckMV m v = 0 then m.ab v else 0
def Mn.pV (m : Mn) (v : Int) : Int := if ckMV m v = 0 then m.p v else 0
def posI (v : Int) : Bool := decide (0 < v)
def mngs (m : Mn) (s : Sg) : List Int :=
 if s.Kind = 2 then coll posI [m.aV s.Value] else if s.Color then [0] else if m.pV s.Value = 3 then coll posI [s.Value, m.aV s.Value] else 0 :: coll posI [m.aV s.Value]
theorem zaP (v : Int) : Fn Tryz.prog 124 [iv v] (.bool (posI v)) := by
 refine Fn.go Tryz.func124 Tryz.ntmps124 (fun g w d => ?_);apply yb;refine ya ?_;apply yj;refine yn ?_;refine X.ret ?_;refine ym ?_;all_goals (first | rfl | (simp_all; done))
theorem zcN (m : Mn) (s : Sg) : Fn Tryz.prog 86 [mnA m, sgA s] (yg (mngs m s)) := by
 refine Fn.go Tryz.func86 Tryz.ntmps86 (fun g w d => ?_);apply yb;iterate 2 refine yF ?_
 refine ya ?_;apply yj;iterate 3 refine ya ?_
 refine yq (zh5 m s.Value) ?_;iterate 5 refine ya ?_
 apply yj;iterate 3 refine ya ?_
 refine yq (zei m s.Value) ?_;iterate 5 refine ya ?_
 apply yj;refine ye ?_;apply yd;apply X.block;apply yb;refine zT ?_;refine yk rfl ?_ ?_<;>intro hc1
 ·apply yb;refine ya ?_;refine y2 intE [_] ?_;refine ya ?_;refine Ex.imp (Imp.freeze (k := 29) rfl) ?_;refine Ex.call rfl rfl rfl (zaC [m.aV s.Value] (by simp) _ posI (fun v _ => zaP v)) rfl ?_;refine ye ?_;refine X.ret ?_;refine ym ?_;all_goals (simp [mngs, hc1])
 apply yb;refine yn ?_;refine yk rfl ?_ ?_<;>intro hc2
 ·apply yb;refine y2 intE [_] ?_;refine ye ?_;refine X.ret ?_;refine RetQ.imp (Imp.freeze (k := 35) rfl) ?_;refine ym ?_;all_goals (simp [mngs, *]; rfl)
 apply yb;refine yn ?_;refine yk rfl ?_ ?_<;>intro hc3
 ·have hc4 : m.pV s.Value = 3 := hc3;apply yb;iterate 3 refine ya ?_
  refine y2 intE [_, _] ?_;refine ya ?_;refine Ex.imp (Imp.freeze (k := 42) rfl) ?_;refine Ex.call rfl rfl rfl (zaC [s.Value, m.aV s.Value] (by simp) _ posI (fun v _ => zaP v)) rfl ?_;refine ye ?_;refine X.ret ?_;refine ym ?_;all_goals (simp [mngs, hc1, hc2, hc4])
 have hc4 : ¬ m.pV s.Value = 3 := hc3;have hcl : (coll posI [m.aV s.Value]).length <= 1 := zej _ _;apply yf;apply yb;refine y2 intE [_] ?_;refine ya ?_;refine y2 intE [_] ?_;refine ya ?_;refine Ex.imp (Imp.freeze (k := 47) rfl) ?_;refine Ex.call rfl rfl rfl (zaC [m.aV s.Value] (by simp) _ posI (fun v _ => zaP v)) rfl ?_;refine Ex.mo ?_;refine ye ?_;refine X.ret ?_;refine RetQ.imp (Imp.freeze (k := 45) rfl) ?_;refine ym ?_;all_goals (simp [mngs, *]; rfl)
end Go.Rse
namespace Go.Rse
open Go Go.Proofs
attribute [local irreducible] Pur yx yz Ex X Fn Imp LeV LeB FnO It yC
def yT (l : List Sg) : Nat -> List Int
 | 0 => []
 | k + 1 => yT l k ++ (match l[k]? with | some s => if s.Kind = 3 then [(k : Int)] else [] | none => [])
theorem zb2 (l : List Sg) : ∀ k, (yT l k).length <= k
 | 0 => Nat.le_refl _
 | k + 1 => by
  have := zb2 l k;simp only [yT, List.length_append];split
  ·split <;> simp <;> omega
  ·simp; omega
theorem zjL (l : List Sg) (hl : l.length <= 1000) : Fn Tryz.prog 128 [sgsA l] (yg (yT l l.length)) := by
 refine Fn.go Tryz.func128 Tryz.ntmps128 (fun g w d => ?_);apply yb;refine ya ?_;apply yj;refine ye ?_;iterate 2 apply yd
 refine X.imp (y5 intE 3 1 3 3 rfl rfl) ?_;apply yc;refine yn ?_;apply X.block;refine zh (ι := Nat) (fun (k : Nat) => [(3, .own 3), (6, sgsA l), (7, iv l.length), (8, iv (k : Int))]) (fun (k : Nat) => [(3, .row intE (yT l k) 3 1)]) (fun (k : Nat) => k <= l.length) (fun (k : Nat) => l.length - k) 0 (fun k hk => ?_);apply yb;refine ye ?_;apply yd;refine yk rfl ?_ ?_<;>intro hc1
 ·obtain ⟨s, hs⟩ : ∃ s, l[k]? = some s := ⟨_, lgg (by omega)⟩;have hs2 : l[(k : Int).toNat]? = some s := by simpa using hs
  have hdl := zb2 l k;apply yf;apply yd;apply X.block;apply yb;iterate 3 refine ya ?_
  refine yH ?_;refine ya ?_;refine Ex.mo ?_;apply yj;refine yn ?_;refine yk rfl ?_ ?_<;>intro hc2
  ·have hrow2 : yT l k ++ [(k : Int)] = yT l (k + 1) := by simp [yT, hs, hc2]
   apply yc;(iterate 2 refine ya ?_);refine y2 intE [_] ?_;refine Ex.mo ?_;refine ye ?_;apply yc;refine yh ?_;refine yP (k + 1)
  ·have hrow2 : yT l k = yT l (k + 1) := by simp [yT, hs, hc2]
   apply yf;apply yc;refine yh ?_;refine yP (k + 1)
 ·have hk2 : k = l.length := by omega
  subst hk2;apply X.exit;apply yb;refine yh ?_;refine X.ret ?_;refine RetQ.imp (Imp.freeze (k := 3) rfl) ?_;refine ym ?_;all_goals (first | rfl | (simp_all; done))
end Go.Rse
namespace Go.Rse
open Go Go.Proofs
attribute [local irreducible] Pur yx yz Ex X Fn Imp LeV LeB FnO It yC
def sgF (m : Mn) (l : List Sg) (k : Nat) (s : Sg) : Int :=
 if s.Kind = 1 \/ s.Kind = 2 then (if 1 <= s.Value /\ s.Value <= 8 then 0 else 2)
 else if s.Kind = 3 then (match k with | 0 => 13 | j + 1 => match l[j]? with | some p => if p.Kind = 3 \/ (mngs m p).length = 0 then 13 else 0 | none => 13)
 else 8
def zK (m : Mn) (l : List Sg) : Nat -> List Sg -> Int
 | _, [] => 0
 | k, s :: r => if sgF m l k s = 0 then zK m l (k + 1) r else sgF m l k s
def ckD (m : Mn) (l : List Sg) : Int := if ckM m = 0 then zK m l 0 l else ckM m
theorem zb3 {m : Mn} {l : List Sg} {k : Nat} {s : Sg} (h : l[k]? = some s) (h0 : sgF m l k s = 0) : zK m l k (l.drop k) = zK m l (k + 1) (l.drop (k + 1)) := by
 have hk : k < l.length := (List.getElem?_eq_some_iff.1 h).1;rw [List.drop_eq_getElem_cons hk];have : l[k] = s := (List.getElem?_eq_some_iff.1 h).2;rw [this]; simp only [zK, h0, if_true]
theorem zaQ {m : Mn} {l : List Sg} {k : Nat} {s : Sg} (h : l[k]? = some s) (h0 : sgF m l k s ≠ 0) : zK m l k (l.drop k) = sgF m l k s := by
 have hk : k < l.length := (List.getElem?_eq_some_iff.1 h).1;rw [List.drop_eq_getElem_cons hk];have : l[k] = s := (List.getElem?_eq_some_iff.1 h).2;rw [this]; simp only [zK, if_neg h0]
theorem zkF {m : Mn} {l : List Sg} {k : Nat} {s : Sg} (hk : k < l.length) (h3 : s.Kind = 3) : sgF m l k s = if ((k : Int) = 0 \/ (l.getD ((k : Int) - 1).toNat default).Kind = 3) \/ ((mngs m (l.getD ((k : Int) - 1).toNat default)).length : Int) = 0 then 13 else 0 := by
 unfold sgF;rw [if_neg (by omega), if_pos h3];cases k with
 | zero => simp
 | succ j =>
  have e : (((j + 1 : Nat) : Int) - 1).toNat = j := by omega
  have hp : l[j]? = some (l.getD j default) := by rw [List.getD_eq_getElem?_getD, lgg (by omega)]; rfl
  rw [e]; simp only [hp];generalize l.getD j default = p;by_cases h1 : p.Kind = 3
  ·simp [h1]
  ·by_cases h2 : (mngs m p).length = 0
   ·rw [if_pos (.inr h2), if_pos (.inr (by omega))]
   ·rw [if_neg (by omega), if_neg (by omega)]
theorem za2 (m : Mn) (l : List Sg) (hl : l.length <= 1000) : Fn Tryz.prog 42 [mnA m, sgsA l] (iv (ckD m l)) := by
 refine Fn.go Tryz.func42 Tryz.ntmps42 (fun g w d => ?_);apply yb;refine yF ?_;refine ye ?_;apply yd;apply yb;refine ya ?_;refine yq (zcf m) ?_;refine ya ?_;apply yj;refine yh ?_;refine yk rfl ?_ ?_<;>intro hc1
 ·apply yb;refine yh ?_;refine X.ret ?_;refine ym ?_;all_goals (first | rfl | (unfold ckD; rw [if_neg hc1]))
 apply yf;apply yd;apply yb;refine yn ?_;apply X.block
 refine zh (ι := Nat) (fun (k : Nat) => [(1, sgsA l), (2, .ptr 2 0 0 0), (13, sgsA l), (14, iv l.length), (15, iv (k : Int))]) (fun (k : Nat) => [(2, .box (mnE m) 24)]) (fun (k : Nat) => k <= l.length /\ ckD m l = zK m l k (l.drop k)) (fun (k : Nat) => l.length - k) 0 (fun k hk => ?_) (hJ := by
  exact ⟨by omega, by unfold ckD; rw [if_pos hc1]; rfl⟩)
 obtain ⟨hk1, hk2⟩ := hk;apply yb;refine ye ?_;apply yd;refine yk rfl ?_ ?_<;>intro hc2
 ·obtain ⟨s, hs⟩ : ∃ s, l[k]? = some s := ⟨_, lgg (by omega)⟩;have hs2 : l[(k : Int).toNat]? = some s := by simpa using hs
  apply yf;apply yd;apply X.block;apply yb;iterate 3 refine ya ?_
  refine yH ?_;refine ya ?_;refine Ex.mo ?_;apply yj;refine yh ?_;apply X.block;apply yd;apply yb;refine yh ?_;refine yk rfl ?_ ?_<;>intro hc3
  ·apply yf;refine yk rfl ?_ ?_<;>intro hc4
   ·apply yb;(iterate 3 refine ya ?_);refine ExF.at 3 ?_;refine yI ?_;(iterate 3 refine ExF.gi ?_);refine yA ?_;refine ye ?_;refine yk rfl ?_ ?_<;>intro hc5
    ·have hF : sgF m l k s = 2 := by unfold sgF; rw [if_pos (.inl hc3), if_neg (by omega)]
     apply yb;refine ye ?_;refine X.ret ?_;refine ym ?_;all_goals (rw [hk2, zaQ hs (by rw [hF]; decide), hF])
    have h0 : sgF m l k s = 0 := by unfold sgF; rw [if_pos (.inl hc3), if_pos (by omega)]
    apply yf;apply yc;refine yh ?_
    refine yP (k + 1) (hJ := by
     exact ⟨by omega, by rw [hk2, zb3 hs h0]⟩)
   ·exact absurd hc3 hc4
  ·apply yc;refine yh ?_;refine yk rfl ?_ ?_<;>intro hc6
   ·apply yb;(iterate 3 refine ya ?_);refine ExF.at 3 ?_;refine yI ?_;(iterate 3 refine ExF.gi ?_);refine yA ?_;refine ye ?_;refine yk rfl ?_ ?_<;>intro hc7
    ·have hF : sgF m l k s = 2 := by unfold sgF; rw [if_pos (.inr hc6), if_neg (by omega)]
     apply yb;refine ye ?_;refine X.ret ?_;refine ym ?_;all_goals (rw [hk2, zaQ hs (by rw [hF]; decide), hF])
    have h0 : sgF m l k s = 0 := by unfold sgF; rw [if_pos (.inr hc6), if_pos (by omega)]
    apply yf;apply yc;refine yh ?_
    refine yP (k + 1) (hJ := by
     exact ⟨by omega, by rw [hk2, zb3 hs h0]⟩)
   ·apply yb;refine yh ?_;refine yk rfl ?_ ?_<;>intro hc8
    ·apply yd;refine zy [35,36,37,38,39,40,41,42,43,44,45,46,47,48,49,50,51,52,53,54,55,56] [0,1,3,7,7,23,63,127,255,511,1023,2047,4095,4095,4095,20479,61439,126975,262143,524287,1048575,2097151] mo ?_;(iterate 3 refine yl ?_);(iterate 7 refine ChM.gi ?_);(iterate 2 refine yl ?_);(iterate 6 refine ChM.gi ?_);refine ChM.cg (zcN m _) ?_;(iterate 2 refine ChM.gi ?_);refine yl ?_;refine y7 ?_;apply Ex.nil;refine yk rfl ?_ ?_<;>intro hc9
     ·have hF : sgF m l k s = 13 := by rw [zkF (by omega) hc8, if_pos hc9]
      apply yb;refine ye ?_;refine X.ret ?_;refine ym ?_;all_goals (rw [hk2, zaQ hs (by rw [hF]; decide), hF])
     have h0 : sgF m l k s = 0 := by rw [zkF (by omega) hc8, if_neg (fun h => by omega)]
     apply yf;apply yc;refine yh ?_
     refine yP (k + 1) (hJ := by
      exact ⟨by omega, by rw [hk2, zb3 hs h0]⟩)
    ·have hF : sgF m l k s = 8 := by unfold sgF; rw [if_neg (by omega), if_neg (by omega)]
     apply yb;refine ye ?_;refine X.ret ?_;refine ym ?_;all_goals (rw [hk2, zaQ hs (by rw [hF]; decide), hF])
 ·apply X.exit;apply yb;refine ye ?_;refine X.ret ?_;refine ym ?_;all_goals (rw [hk2, List.drop_of_length_le (by omega)]; rfl)
end Go.Rse
