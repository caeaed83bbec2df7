/-
  Walks: the reference for mensurations.
-/
import Derived.Test.YtggdlojopkoegaaGreatDoorOJTime
import Derived.Test.YtggdlojopkoegaaGreatDoorOLogB
import Derived.Test.YtggdlojopkoegaaGreatDoorOJSpan1
import Derived.Test.YtggdlojopkoegaaGreatDoorOLogC
set_option linter.unusedSimpArgs false
set_option linter.unusedVariables false
namespace Go.Rse
open Go Go.Proofs
attribute [local irreducible] Pur yz yA Ex X Fn Imp LeV LeB FnO It yE
theorem Mn.ok_L (m : Mn) : m.Ok ↔ ∀ v ∈ mnL m, two3 v := by simp [Mn.Ok, mnL]
theorem zrQ {m : Mn} {w : Int} (h : 4 < w) : m.p w = 2 := by
 unfold Mn.p; rw [if_neg (by omega), if_neg (by omega), if_neg (by omega), if_neg (by omega)]
theorem znD {m : Mn} {v : Int} (h : ckMV m v = 0) : 1 <= v /\ v <= 8 := by
 unfold ckMV at h;split at h
 ·split at h
  ·assumption
  ·omega
 ·omega
theorem zdx (m : Mn) : Fn Tryz.prog 94 [mnA m] (iv (ckM m)) := by
 refine Fn.go Tryz.func94 Tryz.ntmps94 (fun g w d => ?_);apply yb;refine yD ?_;refine ya ?_;apply yj;iterate 8 refine ya ?_
 refine yQ intE [_, _, _, _] ?_;refine ye ?_;iterate 2 apply yd
 refine X.imp (Imp.freeze (k := 13) rfl) ?_;apply yc;refine ye ?_;apply X.block
 refine zj (ι := Nat) (fun (k : Nat) => [(3, yl (mnL m)), (4, iv (k : Int))]) (fun (k : Nat) => []) (fun (k : Nat) => k <= 4 /\ ∀ i v, i < k -> (mnL m)[i]? = some v -> two3 v) (fun (k : Nat) => 4 - k) 0 (fun k hk => ?_) (hJ := by
  exact ⟨by omega, fun i v h => absurd h (Nat.not_lt_zero i)⟩)
 obtain ⟨hk1, hk2⟩ := hk;have hl4 : (mnL m).length = 4 := rfl;apply yd;apply yb;refine z6 ?_;refine yk rfl ?_ ?_<;>intro hc1
 ·obtain ⟨v, hv⟩ : ∃ v, (mnL m)[k]? = some v := ⟨_, lgg (by omega)⟩;have hv2 : (mnL m)[(k : Int).toNat]? = some v := by simpa using hv
  apply yf;apply yd;apply X.block;apply yb;iterate 5 refine ya ?_
  refine ExF.at 5 ?_;refine yO ?_;iterate 5 refine ExF.gi ?_
  refine yF ?_;refine ye ?_;refine yk rfl ?_ ?_<;>intro hc2
  ·apply yb;refine ye ?_;refine X.ret ?_;refine yh ?_;all_goals (congr 1; unfold ckM; rw [if_neg (fun h => by have := (m.ok_L.1 h) v (List.mem_of_getElem? hv); unfold two3 at this; omega)])
  apply yf;apply yc;refine yo ?_
  refine yL (k + 1) (hJ := by
   refine ⟨by omega, fun i u hi hu => ?_⟩;rcases Nat.lt_succ_iff_lt_or_eq.1 hi with h | h
   ·exact hk2 i u h hu
   ·subst h; rw [hv] at hu; injection hu with hu; subst hu; unfold two3; omega)
 ·apply X.exit;apply yb;refine ye ?_;refine X.ret ?_;refine yh ?_;all_goals (congr 1; unfold ckM; rw [if_pos (m.ok_L.2 fun v hv => by obtain ⟨i, hi⟩ := List.mem_iff_getElem?.1 hv; exact hk2 i v (by have := (List.getElem?_eq_some_iff.1 hi).1; omega) hi)])
theorem zfg (m : Mn) (v : Int) : Fn Tryz.prog 115 [mnA m, iv v] (iv (m.p v)) := by
 refine Fn.go Tryz.func115 Tryz.ntmps115 (fun g w d => ?_);apply yb;refine yD ?_;refine ye ?_;apply yd;apply yb;refine ye ?_;apply X.block;apply yb;refine yg ?_;refine yk rfl ?_ ?_<;>intro hc1
 ·apply yb;refine yo ?_;refine X.ret ?_;refine yh ?_;all_goals (congr 1; unfold Mn.p; simp [*])
 apply yb;refine yg ?_;refine yk rfl ?_ ?_<;>intro hc2
 ·apply yb;refine yo ?_;refine X.ret ?_;refine yh ?_;all_goals (congr 1; unfold Mn.p; simp [*])
 apply yb;refine yg ?_;refine yk rfl ?_ ?_<;>intro hc3
 ·apply yb;refine yo ?_;refine X.ret ?_;refine yh ?_;all_goals (congr 1; unfold Mn.p; simp [*])
 apply yb;refine yg ?_;refine yk rfl ?_ ?_<;>intro hc4
 ·apply yb;refine yo ?_;refine X.ret ?_;refine yh ?_;all_goals (congr 1; unfold Mn.p; simp [*])
 apply yf;apply yb;refine ye ?_;refine X.ret ?_;refine yh ?_;all_goals (congr 1; unfold Mn.p; simp [*])
theorem zdy (m : Mn) (v : Int) : Fn Tryz.prog 114 [mnA m, iv v] (iv (ckMV m v)) := by
 refine Fn.go Tryz.func114 Tryz.ntmps114 (fun g w d => ?_);apply yb;refine yD ?_;refine ya ?_;apply yj;refine ya ?_;refine ym (zdx m) ?_;refine ye ?_;apply yd;apply yb;refine yg ?_;refine yk rfl ?_ ?_<;>intro hc1
 ·apply yb;refine yg ?_;refine X.ret ?_;refine yh ?_;all_goals (by_cases hm : m.Ok <;> simp_all [ckM, ckMV] <;> omega)
 apply yf;apply yd;apply yb;iterate 2 refine ya ?_
 refine ExF.at 2 ?_;refine yO ?_;iterate 2 refine ExF.gi ?_
 refine yF ?_;refine ye ?_;refine yk rfl ?_ ?_<;>intro hc2
 ·apply yb;refine ye ?_;refine X.ret ?_;refine yh ?_;all_goals (by_cases hm : m.Ok <;> simp_all [ckM, ckMV] <;> omega)
 apply yf;apply yb;refine ye ?_;refine X.ret ?_;refine yh ?_;all_goals (by_cases hm : m.Ok <;> simp_all [ckM, ckMV] <;> omega)
end Go.Rse
namespace Go.Rse
open Go Go.Proofs
attribute [local irreducible] Pur yz yA Ex X Fn Imp LeV LeB FnO It yE
def zaE (m : Mn) (v : Int) : Nat -> Int
 | 0 => 1
 | n + 1 => zaE m v n * m.p (v + n)
def dbl : Nat -> Int
 | 0 => 1
 | n + 1 => dbl n * 2
def yR (m : Mn) (v : Int) : Tm := ⟨zaE m v (5 - v).toNat, dbl (v - 5).toNat⟩
theorem zhT {m : Mn} (h : ckM m = 0) (v : Int) (h1 : 1 <= v) : m.p v = 2 \/ m.p v = 3 := by
 rcases Int.lt_or_le 4 v with h4 | h4
 ·exact .inl (zrQ h4)
 ·have ho : m.Ok := by
   unfold ckM at h; split at h
   ·assumption
   ·simp at h
  exact m.ok_iff.1 ho v h1 h4
def pw3 : Nat -> Int
 | 0 => 1
 | n + 1 => pw3 n * 3
theorem zhU {m : Mn} (h : ckM m = 0) {v : Int} (h1 : 1 <= v) : ∀ n, 1 <= zaE m v n /\ zaE m v n <= pw3 n
 | 0 => ⟨Int.le_refl _, Int.le_refl _⟩
 | n + 1 => by
  obtain ⟨a, b⟩ := zhU h h1 n;simp only [zaE, pw3];rcases zhT h (v + n) (by omega) with e | e <;> rw [e] <;> omega
theorem zpd : ∀ n, n <= 4 -> pw3 n <= 81
 | 0, _ => by decide
 | 1, _ => by decide
 | 2, _ => by decide
 | 3, _ => by decide
 | 4, _ => by decide
 | n + 5, h => by omega
theorem zpe : ∀ n, n <= 3 -> 1 <= dbl n /\ dbl n <= 8
 | 0, _ => by decide
 | 1, _ => by decide
 | 2, _ => by decide
 | 3, _ => by decide
 | n + 4, h => by omega
theorem zl7 {m : Mn} {v : Int} (h : ckMV m v = 0) : ckM m = 0 /\ 1 <= v /\ v <= 8 := by
 have h2 := znD h;refine ⟨?_, h2⟩;unfold ckMV at h; unfold ckM;split at h
 ·rw [if_pos (by assumption)]
 ·omega
theorem zkf (m : Mn) (v : Int) (j : Nat) : zaE m v j * m.p (v + (j : Int)) = zaE m v (j + 1) := rfl
theorem zpf (j : Nat) : dbl j * 2 = dbl (j + 1) := rfl
theorem zqc (j : Nat) : 2 * dbl j = dbl (j + 1) := by rw [← zpf]; exact Int.mul_comm _ _
attribute [local irreducible] zaE dbl perfL
theorem ziK (m : Mn) (v : Int) (hm : ckM m = 0) (h1 : 1 <= v) (h8 : v <= 8) : Fn Tryz.prog 212 [mnA m, iv v] (tmA (yR m v)) := by
 have hp0 : zaE m v 0 = 1 := by unfold zaE; rfl
 have hd0 : dbl 0 = 1 := by unfold dbl; rfl
 refine Fn.go Tryz.func212 Tryz.ntmps212 (fun g w d => ?_);apply yb;refine yD ?_;refine yC ?_;apply yj;refine yg ?_;apply yd;apply yb;refine yg ?_;apply X.block;refine zj (ι := Nat) (fun (j : Nat) => [(1, iv v), (2, .ptr 2 0 0 0), (4, .ptr 4 0 0 0), (5, iv (zaE m v j)), (6, iv 1), (7, iv (v + (j : Int)))]) (fun (j : Nat) => [(2, .box (mnE m) 23), (4, .box [iv 0, iv 0] 40)]) (fun (j : Nat) => j <= (5 - v).toNat) (fun (j : Nat) => (5 - v).toNat - j) 0 (fun j hk => ?_);apply yd;apply yb;refine yg ?_;refine yk rfl ?_ ?_<;>intro hc1
 ·have hjv : j < (5 - v).toNat := by omega
  have hb := zhU (m := m) hm h1 j;have hb2 := zpd j (by omega);have hp := zhT hm (v + j) (by omega);have hst := zkf m v j;have hpm : 0 <= zaE m v j * m.p (v + (j : Int)) /\ zaE m v j * m.p (v + (j : Int)) <= 1000 := by rcases hp with e | e <;> rw [e] <;> omega
  apply yf;apply yd;apply X.block;apply yc;iterate 3 refine ya ?_
  refine ym (zhd m (v + (j : Int)) (by omega) (by omega)) ?_;refine yg ?_;apply yc;refine yo ?_;refine yL (j + 1)
 ·have hj : j = (5 - v).toNat := by omega
  subst hj;apply X.exit;apply yd;apply yb;refine ye ?_;apply X.block;refine zj (ι := Nat) (fun (j : Nat) => [(1, iv v), (2, .ptr 2 0 0 0), (4, .ptr 4 0 0 0), (5, iv (zaE m v (5 - v).toNat)), (6, iv (dbl j)), (8, iv (5 + (j : Int)))]) (fun (j : Nat) => [(2, .box (mnE m) 23), (4, .box [iv 0, iv 0] 40)]) (fun (j : Nat) => j <= (v - 5).toNat) (fun (j : Nat) => (v - 5).toNat - j) 0 (fun j hk => ?_);apply yd;apply yb;refine yo ?_;refine yk rfl ?_ ?_<;>intro hc2
  ·have hb := zpe j (by omega);have hst := zpf j;apply yf;apply yd;apply X.block;apply yc;refine yo ?_;apply yc;refine yo ?_;refine yL (j + 1)
  ·have hj : j = (v - 5).toNat := by omega
   subst hj;apply X.exit;apply yb;(iterate 3 refine ya ?_);refine Ex.mo ?_;apply Ex.nil;refine X.ret ?_;refine RetQ.ret (.one (.cellA rfl rfl rfl rfl ty40 (LeV.eq ?_)));all_goals (rfl)
theorem ziL (m : Mn) (v : Int) : Fn Tryz.prog 163 [mnA m, iv v] (.tup [tmA (if ckMV m v = 0 then yR m v else tmZ), iv (ckMV m v)]) := by
 refine Fn.go Tryz.func163 Tryz.ntmps163 (fun g w d => ?_);apply yb;refine yD ?_;refine yC ?_;refine ye ?_;apply yd;apply yb;iterate 2 refine ya ?_
 refine ym (zbw m v) ?_;refine ya ?_;apply yj;refine yg ?_;refine yk rfl ?_ ?_<;>intro hc1
 ·apply yb;iterate 2 refine ya ?_
  refine Ex.mo ?_;refine ye ?_;refine X.ret ?_;refine yY ty40 ?_ ?_;all_goals (first | rfl | (rw [if_neg hc1]; done) | (rw [if_neg hc1]; rfl) | (rw [if_pos hc1]; done) | (rw [if_pos hc1]; rfl) | (rw [hc1]; done) | (rw [hc1]; rfl))
 have h3 := zl7 hc1;apply yf;apply yb;iterate 2 refine ya ?_
 refine ym (ziK m v h3.1 h3.2.1 h3.2.2) ?_;refine Ex.mo ?_;refine ye ?_;refine X.ret ?_;refine yY ty40 ?_ ?_;all_goals (first | rfl | (rw [if_neg hc1]; done) | (rw [if_neg hc1]; rfl) | (rw [if_pos hc1]; done) | (rw [if_pos hc1]; rfl) | (rw [hc1]; done) | (rw [hc1]; rfl))
theorem zdQ (m : Mn) (v : Int) : Fn Tryz.prog 51 [mnA m, iv v] (.tup [tmA (if ckMV m v = 0 then yR m v else tmZ), iv (ckMV m v)]) := by
 have hp0 : zaE m v 0 = 1 := by unfold zaE; rfl
 have hd0 : dbl 0 = 1 := by unfold dbl; rfl
 refine Fn.go Tryz.func51 Tryz.ntmps51 (fun g w d => ?_);apply yb;refine yD ?_;refine yC ?_;refine ya ?_;apply yj;iterate 2 refine ya ?_
 refine ym (zdy m v) ?_;refine ye ?_;apply yd;apply yb;refine yg ?_;refine yk rfl ?_ ?_<;>intro hc1
 ·apply yb;iterate 2 refine ya ?_
  refine Ex.mo ?_;refine ye ?_;refine X.ret ?_;refine yY ty40 ?_ ?_;all_goals (first | rfl | (rw [if_neg hc1]; done) | (rw [if_neg hc1]; rfl) | (rw [if_pos hc1]; done) | (rw [if_pos hc1]; rfl) | (rw [hc1]; done) | (rw [hc1]; rfl))
 have h3 := zl7 hc1;have hm := h3.1;have h1 := h3.2.1;have h8 := h3.2.2;apply yf;apply yb;refine yg ?_;apply yd;apply yb;refine yg ?_;apply X.block;refine zj (ι := Nat) (fun (j : Nat) => [(1, iv v), (2, .ptr 2 0 0 0), (4, .ptr 4 0 0 0), (5, iv 0), (7, iv (zaE m v j)), (8, iv 1), (9, iv (v + (j : Int)))]) (fun (j : Nat) => [(2, .box (mnE m) 23), (4, .box [iv 0, iv 0] 40)]) (fun (j : Nat) => j <= (5 - v).toNat) (fun (j : Nat) => (5 - v).toNat - j) 0 (fun j hk => ?_);apply yd;apply yb;refine yg ?_;refine yk rfl ?_ ?_<;>intro hc2
 ·have hjv : j < (5 - v).toNat := by omega
  have hb := zhU (m := m) hm h1 j;have hb2 := zpd j (by omega);have hp := zhT hm (v + j) (by omega);have hst := zkf m v j;have hpm : 0 <= zaE m v j * m.p (v + (j : Int)) /\ zaE m v j * m.p (v + (j : Int)) <= 1000 := by rcases hp with e | e <;> rw [e] <;> omega
  apply yf;apply yd;apply X.block;apply yc;iterate 3 refine ya ?_
  refine ym (zfg m (v + (j : Int))) ?_;refine yg ?_;apply yc;refine yo ?_;refine yL (j + 1)
 ·have hj : j = (5 - v).toNat := by omega
  subst hj;apply X.exit;apply yd;apply yb;refine yg ?_;apply X.block;refine zj (ι := Nat) (fun (j : Nat) => [(1, iv v), (2, .ptr 2 0 0 0), (4, .ptr 4 0 0 0), (5, iv 0), (7, iv (zaE m v (5 - v).toNat)), (8, iv (dbl j)), (10, iv (v - (j : Int)))]) (fun (j : Nat) => [(2, .box (mnE m) 23), (4, .box [iv 0, iv 0] 40)]) (fun (j : Nat) => j <= (v - 5).toNat) (fun (j : Nat) => (v - 5).toNat - j) 0 (fun j hk => ?_);apply yd;apply yb;refine yg ?_;refine yk rfl ?_ ?_<;>intro hc3
  ·have hb := zpe j (by omega);have hst := zqc j;apply yf;apply yd;apply X.block;apply yc;refine yo ?_;apply yc;refine yo ?_;refine yL (j + 1)
  ·have hj : j = (v - 5).toNat := by omega
   subst hj;apply X.exit;apply yb;(iterate 3 refine ya ?_);refine Ex.mo ?_;refine ye ?_;refine X.ret ?_;refine yY ty40 ?_ ?_;all_goals (first | rfl | (rw [if_neg hc1]; done) | (rw [if_neg hc1]; rfl) | (rw [if_pos hc1]; done) | (rw [if_pos hc1]; rfl) | (rw [hc1]; done) | (rw [hc1]; rfl))
end Go.Rse
namespace Go.Rse
open Go Go.Proofs
attribute [local irreducible] Pur yz yA Ex X Fn Imp LeV LeB FnO It yE
def Mn.pl (m : Mn) : Bool := decide (m.Max = 2) && decide (m.Mod = 2) && decide (m.Tem = 2) && decide (m.Pro = 2)
def durR (m : Mn) : Nat -> Int -> Tm
 | 0, v => if m.pl = true then mulV (yR m v) ⟨2, 3⟩ else yR m v
 | n + 1, v => if m.pl = true then mulV (yR m v) ⟨2, 3⟩ else if m.p v = 3 then mulV (yR m v) ⟨2, 3⟩ else mulV (durR m n (v + 1)) ⟨2, 1⟩
def durT (m : Mn) (v : Int) : Tm := durR m (5 - v).toNat v
theorem znE {m : Mn} {v : Int} (h : m.pl = true) : durT m v = mulV (yR m v) ⟨2, 3⟩ := by
 unfold durT; cases (5 - v).toNat <;> simp [durR, h]
theorem zl8 {m : Mn} {v : Int} (h : m.pl = false) (h5 : 5 <= v) : durT m v = yR m v := by
 unfold durT; rw [show (5 - v).toNat = 0 by omega]; simp [durR, h]
theorem zqd {m : Mn} {v : Int} (h : m.pl = false) (h5 : v < 5) (h3 : m.p v = 3) : durT m v = mulV (yR m v) ⟨2, 3⟩ := by
 unfold durT; rw [show (5 - v).toNat = (4 - v).toNat + 1 by omega]; simp [durR, h, h3]
theorem zqe {m : Mn} {v : Int} (h : m.pl = false) (h5 : v < 5) (h3 : ¬ m.p v = 3) : durT m v = mulV (durT m (v + 1)) ⟨2, 1⟩ := by
 unfold durT; rw [show (5 - v).toNat = (5 - (v + 1)).toNat + 1 by omega]; simp [durR, h, h3]
theorem zaj {m : Mn} {v : Int} (hm : ckM m = 0) (h1 : 1 <= v) (h8 : v <= 8) : Fn Tryz.prog 163 [mnA m, iv v] (.tup [tmA (yR m v), iv 0]) := by
 have h := ziL m v
 have h0 : ckMV m v = 0 := by
  unfold ckM at hm; unfold ckMV;split at hm
  ·rw [if_pos (by assumption), if_pos ⟨h1, h8⟩]
  ·simp at hm
 rw [h0, if_pos rfl] at h; exact h
theorem zdG {m : Mn} {v : Int} (hm : ckM m = 0) (h1 : 1 <= v) (h8 : v <= 8) : Fn Tryz.prog 193 [mnA m, iv v] (.tup [iv (m.p v), iv 0]) := by
 have h := zcm m v
 have h0 : ckMV m v = 0 := by
  unfold ckM at hm; unfold ckMV;split at hm
  ·rw [if_pos (by assumption), if_pos ⟨h1, h8⟩]
  ·simp at hm
 rw [h0, if_pos rfl] at h; exact h
attribute [local irreducible] yR durT mulV
theorem zcL (t : Tm) : Fn Tryz.prog 308 [tmA t] (tmA (mulV t ⟨2, 3⟩)) := by
 refine Fn.go Tryz.func308 Tryz.ntmps308 (fun g w d => ?_);apply yb;refine yD ?_;refine yC ?_;apply yj;iterate 2 refine ya ?_
 refine ym (zcl t ⟨2, 3⟩) ?_;iterate 3 refine ya ?_
 refine yC ?_;refine Ex.mo ?_;refine ya ?_;apply yj;refine ya ?_;refine Ex.mo ?_;apply Ex.nil;refine X.ret ?_;refine RetQ.ret (.one (.cellA rfl rfl rfl rfl ty40 (LeV.eq ?_)));all_goals (rfl)
theorem zgQ (m : Mn) (hm : ckM m = 0) (v : Int) (h1 : 1 <= v) (h8 : v <= 8) : FnO Tryz.prog 307 [iv v, .ptr 2000000 0 0 0, .ptr 2000001 0 0 0, .ptr 2000002 0 0 0] [(2000000, .box (mnE m) 23), (2000001, .box [.bool m.pl] 4), (2000002, .box [.fn 307 [.ptr 2000000 0 0 0, .ptr 2000001 0 0 0, .ptr 2000002 0 0 0]] 333)] [2000000, 2000001, 2000002] (tmA (durT m v)) [(2000000, .box (mnE m) 23), (2000001, .box [.bool m.pl] 4), (2000002, .box [.fn 307 [.ptr 2000000 0 0 0, .ptr 2000001 0 0 0, .ptr 2000002 0 0 0]] 333)] := by
 induction hn : (5 - v).toNat using Nat.strongRecOn generalizing v
 rename_i n ih;refine FnO.introX (ts := [(0, iv v), (1, .ptr 2000000 0 0 0), (2, .ptr 2000001 0 0 0), (3, .ptr 2000002 0 0 0)]) (rv := [.cell 5 40]) (n := 47) (cs := [.ptr 2000000 0 0 0, .ptr 2000001 0 0 0, .ptr 2000002 0 0 0]) (by kernel_rfl) Tryz.func307 rfl Tryz.ntmps307 rfl rfl (by simp) rfl rfl rfl rfl (fun g w d vs => ?_);apply yb;refine yC ?_;apply yj;iterate 2 refine ya ?_
 refine ym (zaj hm h1 h8) ?_;iterate 3 refine ya ?_
 refine yC ?_;refine Ex.mo ?_;refine ya ?_;apply yj;iterate 2 refine ya ?_
 refine ym (zdG hm h1 h8) ?_;refine zw ?_;apply yd;apply X.block;apply yb;refine yg ?_;refine yk rfl ?_ ?_<;>intro hc1
 ·have hD := znE (v := v) hc1;apply yb;refine ya ?_;refine ym (zcL _) ?_;refine Ex.mo ?_;apply Ex.nil;refine X.ret ?_;refine zhv.mk [(5, .ptr 5 0 0 0)] [(5, .box (tmE (mulV (yR m v) ⟨2, 3⟩)) 40)] (.inr rfl) (.one (.cellA rfl rfl rfl rfl ty40 (LeV.eq ?_)));all_goals (rw [hD])
 apply yb;refine yo ?_;refine yk rfl ?_ ?_<;>intro hc2
 ·have hD := zl8 hc1 hc2;apply yb;refine ya ?_;refine Ex.mo ?_;apply Ex.nil;refine X.ret ?_;refine zhv.mk [(5, .ptr 5 0 0 0)] [(5, .box (tmE (yR m v)) 40)] (.inr rfl) (.one (.cellA rfl rfl rfl rfl ty40 (LeV.eq ?_)));all_goals (rw [hD])
 apply yb;refine yo ?_;refine yk rfl ?_ ?_<;>intro hc3
 ·have hD := zqd hc1 hc2 hc3;apply yb;refine ya ?_;refine ym (zcL _) ?_;refine Ex.mo ?_;apply Ex.nil;refine X.ret ?_;refine zhv.mk [(5, .ptr 5 0 0 0)] [(5, .box (tmE (mulV (yR m v) ⟨2, 3⟩)) 40)] (.inr rfl) (.one (.cellA rfl rfl rfl rfl ty40 (LeV.eq ?_)));all_goals (rw [hD])
 have hD := zqe hc1 hc2 hc3;apply yf;apply yb;iterate 3 refine ya ?_
 refine zaJ [(2000000, 2000000), (2000001, 2000001), (2000002, 2000002)] (ih (5 - (v + 1)).toNat (by omega) (v + 1) (by omega) (by omega) rfl) ?_;refine ya ?_;refine ym (zcl (durT m (v + 1)) ⟨2, 1⟩) ?_;iterate 3 refine ya ?_
 refine yC ?_;refine Ex.mo ?_;refine ya ?_;apply yj;refine ya ?_;refine Ex.mo ?_;apply Ex.nil;refine X.ret ?_;refine zhv.mk [(5, .ptr 5 0 0 0)] [(5, .box (tmE (mulV (durT m (v + 1)) ⟨2, 1⟩)) 40)] (.inr rfl) (.one (.cellA rfl rfl rfl rfl ty40 (LeV.eq ?_)));all_goals (rw [hD])
theorem zeW (m : Mn) (hm : ckM m = 0) (v : Int) (h1 : 1 <= v) (h8 : v <= 8) : Fn Tryz.prog 268 [mnA m, iv v] (tmA (durT m v)) := by
 have hpl : (decide (m.Max = 2) && decide (m.Mod = 2) && decide (m.Tem = 2) && decide (m.Pro = 2)) = m.pl := by unfold Mn.pl; rfl
 refine Fn.go Tryz.func268 Tryz.ntmps268 (fun g w d => ?_);apply yb;refine yD ?_;refine yC ?_;apply yj;iterate 3 refine ya ?_
 refine ExF.at 3 ?_;refine yO ?_;iterate 3 refine ExF.gi ?_
 iterate 2 refine yO ?_
 iterate 3 refine ExF.gi ?_
 iterate 2 refine yO ?_
 iterate 3 refine ExF.gi ?_
 refine yF ?_;refine ya ?_;refine yC ?_;refine Ex.mo ?_;apply yj;refine yC ?_;apply yj;refine ya ?_;refine Ex.mo ?_;apply yj;iterate 2 refine ya ?_
 refine zaJ [(2000000, 2), (2000001, 5), (2000002, 6)] (zgQ m hm v h1 h8) ?_;refine Ex.mo ?_;apply Ex.nil;refine X.ret ?_;refine RetQ.ret (.one (.cellA rfl rfl rfl rfl ty40 (LeV.eq ?_)));all_goals (rfl)
theorem ziM (m : Mn) (v : Int) : Fn Tryz.prog 282 [mnA m, iv v] (.tup [tmA (if ckMV m v = 0 then durT m v else tmZ), iv (ckMV m v)]) := by
 refine Fn.go Tryz.func282 Tryz.ntmps282 (fun g w d => ?_);apply yb;refine yD ?_;refine yC ?_;refine ye ?_;apply yd;apply yb;refine ya ?_;refine ym (zal m) ?_;refine ya ?_;apply yj;refine yg ?_;refine yk rfl ?_ ?_<;>intro hc1
 ·have hE : ckMV m v = ckM m := by unfold ckMV ckM at *; split <;> simp_all
  apply yb;iterate 2 refine ya ?_
  refine Ex.mo ?_;refine ye ?_;refine X.ret ?_;refine yY ty40 ?_ ?_;all_goals (first | (rw [hE]; done) | (rw [hE, if_pos rfl]; done) | (rw [hE, if_pos rfl]; rfl) | (rw [hE, if_neg hc1]; rfl) | (rw [hE]; rfl))
 apply yf;apply yd;apply yb;iterate 2 refine ya ?_
 refine ExF.at 2 ?_;refine yO ?_;iterate 2 refine ExF.gi ?_
 refine yF ?_;refine ye ?_;refine yk rfl ?_ ?_<;>intro hc2
 ·have hE : ckMV m v = 2 := by unfold ckM at hc1; unfold ckMV; split at hc1 <;> simp_all; omega
  apply yb;refine ya ?_;refine Ex.mo ?_;refine ye ?_;refine X.ret ?_;refine yY ty40 ?_ ?_;all_goals (first | (rw [hE]; done) | (rw [hE, if_pos rfl]; done) | (rw [hE, if_pos rfl]; rfl) | (rw [hE, if_neg hc1]; rfl) | (rw [hE]; rfl))
 have hE : ckMV m v = 0 := by unfold ckM at hc1; unfold ckMV; split at hc1 <;> simp_all <;> omega
 apply yf;apply yb;iterate 2 refine ya ?_
 refine ym (zeW m hc1 v (by omega) (by omega)) ?_;refine Ex.mo ?_;refine ye ?_;refine X.ret ?_;refine yY ty40 ?_ ?_;all_goals (first | (rw [hE]; done) | (rw [hE, if_pos rfl]; done) | (rw [hE, if_pos rfl]; rfl) | (rw [hE, if_neg hc1]; rfl) | (rw [hE]; rfl))
end Go.Rse
namespace Go.Rse
open Go Go.Proofs
def zg7 (f : Mn -> Int -> Bool) : Bool := ([2, 3] : List Int).all fun a => ([2, 3] : List Int).all fun b => ([2, 3] : List Int).all fun c => ([2, 3] : List Int).all fun e => ([1, 2, 3, 4, 5, 6, 7, 8] : List Int).all fun v => f ⟨a, b, c, e⟩ v
theorem zdg {f : Mn -> Int -> Bool} (h : zg7 f = true) {m : Mn} {v : Int} (hm : ckM m = 0) (h1 : 1 <= v) (h8 : v <= 8) : f m v = true := by
 have ho : m.Ok := by
  unfold ckM at hm; split at hm
  ·assumption
  ·simp at hm
 obtain ⟨a, b, c, e⟩ := m;have hv : v ∈ ([1, 2, 3, 4, 5, 6, 7, 8] : List Int) := by simp; omega
 have h2 : ∀ x : Int, two3 x -> x ∈ ([2, 3] : List Int) := fun x hx => by simpa [two3] using hx
 unfold zg7 at h;exact List.all_eq_true.1 (List.all_eq_true.1 (List.all_eq_true.1 (List.all_eq_true.1 (List.all_eq_true.1 h a (h2 _ ho.1)) b (h2 _ ho.2.1)) c (h2 _ ho.2.2.1)) e (h2 _ ho.2.2.2)) v hv
end Go.Rse
namespace Go.Rse
open Go Go.Proofs
attribute [local irreducible] Pur yz yA Ex X Fn Imp LeV LeB FnO It yE
theorem zl9 {m : Mn} {v : Int} (hm : ckM m = 0) (h1 : 1 <= v) (h8 : v <= 8) : ckMV m v = 0 := by
 unfold ckM at hm; unfold ckMV;split at hm
 ·rw [if_pos (by assumption), if_pos ⟨h1, h8⟩]
 ·simp at hm
theorem zdz {m : Mn} {v : Int} (hm : ckM m = 0) (h1 : 1 <= v) (h8 : v <= 8) : Fn Tryz.prog 51 [mnA m, iv v] (.tup [tmA (yR m v), iv 0]) := by
 have h := zdQ m v;rw [zl9 hm h1 h8, if_pos rfl] at h; exact h
def clr (s : Sg) : Bool := decide (s.Kind = 1) && s.Color
def zcx (l : List Sg) (by' : Int) : Nat -> Int -> Option Sg
 | 0, _ => none
 | n + 1, i => if 0 <= i /\ i < (l.length : Int) then (if (l.getD i.toNat default).Kind = 3 then zcx l by' n (i + by') else some (l.getD i.toNat default)) else none
def zeX (l : List Sg) (by' i : Int) : Option Sg := zcx l by' (l.length + 2) i
theorem zk9 {l : List Sg} {by' : Int} {n : Nat} {i : Int} (h : ¬ (0 <= i /\ i < (l.length : Int))) : zcx l by' n i = none := by
 cases n with
 | zero => rfl
 | succ n => unfold zcx; rw [if_neg h]
theorem zla {l : List Sg} {by' : Int} {n : Nat} {i : Int} (h : 0 <= i /\ i < (l.length : Int)) (h3 : ¬ (l.getD i.toNat default).Kind = 3) (hn : 0 < n) : zcx l by' n i = some (l.getD i.toNat default) := by
 cases n with
 | zero => omega
 | succ n => unfold zcx; rw [if_pos h, if_neg h3]
theorem zma {l : List Sg} {by' : Int} {n : Nat} {i : Int} (h : 0 <= i /\ i < (l.length : Int)) (h3 : (l.getD i.toNat default).Kind = 3) (hn : 0 < n) : zcx l by' n i = zcx l by' (n - 1) (i + by') := by
 cases n with
 | zero => omega
 | succ n => conv => lhs; unfold zcx
             rw [if_pos h, if_pos h3]; rfl
def frB : Option Sg -> Bool
 | some s => !clr s
 | none => true
def za0 (l : List Sg) (i : Int) : Bool := decide (i + 1 < (l.length : Int)) && clr (l.getD i.toNat default) && decide ((l.getD i.toNat default).Value = 4) && clr (l.getD (i + 1).toNat default) && decide ((l.getD (i + 1).toNat default).Value = 5) &&
 !(decide (i + 2 < (l.length : Int)) && decide ((l.getD (i + 2).toNat default).Kind = 3)) && frB (zeX l (-1) (i - 1)) && frB (zeX l 1 (i + 2))
attribute [local irreducible] yR durT mulV tmkT perfL zcx
theorem zav (s : Sg) : Fn Tryz.prog 267 [sgA s] (.bool (clr s)) := by
 refine Fn.go Tryz.func267 Tryz.ntmps267 (fun g w d => ?_);apply yb;refine yD ?_;refine ya ?_;apply yj;iterate 3 refine ya ?_
 refine ExF.at 3 ?_;refine yO ?_;iterate 2 refine ExF.gi ?_
 refine yF ?_;refine yg ?_;refine X.ret ?_;refine yh ?_;all_goals (rfl)
theorem zeb (l : List Sg) (hl : l.length <= 4000000000) (i b : Int) (hb : b = 1 \/ b = -1) (h0 : -2 <= i) (h1 : i <= (l.length : Int) + 2) (h2 : b = -1 -> i <= (l.length : Int) + 1) : Fn Tryz.prog 355 [sgsA l, iv i, iv b] (.bool (frB (zeX l b i))) := by
 refine Fn.go Tryz.func355 Tryz.ntmps355 (fun g w d => ?_);apply yb;refine ye ?_;apply yd;apply X.block
 refine zj (ι := Nat × Int) (fun (p : Nat × Int) => [(0, sgsA l), (1, iv p.2), (2, iv b)]) (fun (p : Nat × Int) => []) (fun (p : Nat × Int) => zcx l b (l.length + 2) i = zcx l b p.1 p.2 /\ ((b = 1 /\ (l.length : Int) - p.2 <= (p.1 : Int)) \/ (b = -1 /\ p.2 + 1 <= (p.1 : Int))) /\ -3 <= p.2 /\ p.2 <= (l.length : Int) + 3) (fun (p : Nat × Int) => p.1) (l.length + 2, i) (fun p hk => ?_) (hJ := by
  exact ⟨rfl, by dsimp only; omega, by dsimp only; omega, by dsimp only; omega⟩)
 obtain ⟨n, j⟩ := p;obtain ⟨k1, k2, k3, k4⟩ := hk;dsimp only at *
 apply yd;apply yb;iterate 2 refine ya ?_
 refine ExF.at 2 ?_;refine yO ?_;iterate 4 refine ExF.gi ?_
 refine yF ?_;refine ye ?_;refine yk rfl ?_ ?_<;>intro hc1
 ·apply yf;apply yd;apply X.block;apply yb;iterate 5 refine ya ?_
  refine ye ?_;refine yk rfl ?_ ?_<;>intro hc2
  ·apply yb;(iterate 4 refine ya ?_);refine ym (zav _) ?_;refine yg ?_;refine X.ret ?_;refine yh ?_;all_goals (unfold zeX; rw [k1, zla hc1 hc2 (by omega)]; rfl)
  apply yf;apply yc;refine z6 ?_
  refine yL ((n - 1, j + b)) (hJ := by
   exact ⟨by rw [k1, zma hc1 hc2 (by omega)], by dsimp only; omega, by dsimp only; omega, by dsimp only; omega⟩) (hm := by dsimp only; omega)
 ·apply X.exit;apply yb;refine ye ?_;refine X.ret ?_;refine yh ?_;all_goals (unfold zeX; rw [k1, zk9 (by omega)]; rfl)
end Go.Rse
