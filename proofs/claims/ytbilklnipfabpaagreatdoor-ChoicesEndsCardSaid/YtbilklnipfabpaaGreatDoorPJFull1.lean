/-
  Walks: full durations, and the perfect values.
-/
import Derived.Test.YtbilklnipfabpaaGreatDoorPJTime
import Derived.Test.YtbilklnipfabpaaGreatDoorPLogC
import Derived.Test.YtbilklnipfabpaaGreatDoorPJDot4
import Derived.Test.YtbilklnipfabpaaGreatDoorPLogB
set_option linter.unusedSimpArgs false
set_option linter.unusedVariables false
namespace Go.Rse
open Go Go.Proofs
attribute [local irreducible] Pur yx yz Ex X Fn Imp LeV LeB FnO It yC
def zbD (m : Mn) (v : Int) : Nat -> Int
 | 0 => 1
 | n + 1 => zbD m v n * m.p (v + n)
def dbl : Nat -> Int
 | 0 => 1
 | n + 1 => dbl n * 2
def fullT (m : Mn) (v : Int) : Tm := ⟨zbD m v (5 - v).toNat, dbl (v - 5).toNat⟩
theorem zkk {m : Mn} (h : ckM m = 0) (v : Int) (h1 : 1 <= v) : m.p v = 2 \/ m.p v = 3 := by
 rcases Int.lt_or_le 4 v with h4 | h4
 ·exact .inl (znc h4)
 ·have ho : m.Ok := by
   unfold ckM at h; split at h
   ·assumption
   ·simp at h
  exact m.ok_iff.1 ho v h1 h4
def pw3 : Nat -> Int
 | 0 => 1
 | n + 1 => pw3 n * 3
theorem zkl {m : Mn} (h : ckM m = 0) {v : Int} (h1 : 1 <= v) : ∀ n, 1 <= zbD m v n /\ zbD m v n <= pw3 n
 | 0 => ⟨Int.le_refl _, Int.le_refl _⟩
 | n + 1 => by
  obtain ⟨a, b⟩ := zkl h h1 n;simp only [zbD, pw3];rcases zkk h (v + n) (by omega) with e | e <;> rw [e] <;> omega
theorem zsj : ∀ n, n <= 4 -> pw3 n <= 81
 | 0, _ => by decide
 | 1, _ => by decide
 | 2, _ => by decide
 | 3, _ => by decide
 | 4, _ => by decide
 | n + 5, h => by omega
theorem zsk : ∀ n, n <= 3 -> 1 <= dbl n /\ dbl n <= 8
 | 0, _ => by decide
 | 1, _ => by decide
 | 2, _ => by decide
 | 3, _ => by decide
 | n + 4, h => by omega
theorem zqG {m : Mn} {v : Int} (h : ckMV m v = 0) : ckM m = 0 /\ 1 <= v /\ v <= 8 := by
 have h2 := zoZ h;refine ⟨?_, h2⟩;unfold ckMV at h; unfold ckM;split at h
 ·rw [if_pos (by assumption)]
 ·omega
theorem zn9 (m : Mn) (v : Int) (j : Nat) : zbD m v j * m.p (v + (j : Int)) = zbD m v (j + 1) := rfl
theorem zsl (j : Nat) : dbl j * 2 = dbl (j + 1) := rfl
attribute [local irreducible] zbD dbl perfL
theorem ziE (m : Mn) (v : Int) (hm : ckM m = 0) (h1 : 1 <= v) (h8 : v <= 8) : Fn Tryz.prog 165 [mnA m, iv v] (tmA (fullT m v)) := by
 have hp0 : zbD m v 0 = 1 := by unfold zbD; rfl
 have hd0 : dbl 0 = 1 := by unfold dbl; rfl
 refine Fn.go Tryz.func165 Tryz.ntmps165 (fun g w d => ?_);apply yb;refine yF ?_;refine yH ?_;apply yj;refine yh ?_;apply yd;apply yb;refine yh ?_;apply X.block;refine zh (ι := Nat) (fun (j : Nat) => [(1, iv v), (2, .ptr 2 0 0 0), (4, .ptr 4 0 0 0), (5, iv (zbD m v j)), (6, iv 1), (7, iv (v + (j : Int)))]) (fun (j : Nat) => [(2, .box (mnE m) 24), (4, .box [iv 0, iv 0] 46)]) (fun (j : Nat) => j <= (5 - v).toNat) (fun (j : Nat) => (5 - v).toNat - j) 0 (fun j hk => ?_);apply yd;apply yb;refine yh ?_;refine yk rfl ?_ ?_<;>intro hc1
 ·have hjv : j < (5 - v).toNat := by omega
  have hb := zkl (m := m) hm h1 j;have hb2 := zsj j (by omega);have hp := zkk hm (v + j) (by omega);have hst := zn9 m v j;have hpm : 0 <= zbD m v j * m.p (v + (j : Int)) /\ zbD m v j * m.p (v + (j : Int)) <= 1000 := by rcases hp with e | e <;> rw [e] <;> omega
  apply yf;apply yd;apply X.block;apply yc;iterate 3 refine ya ?_
  refine yq (zhb m (v + (j : Int)) (by omega) (by omega)) ?_;refine yh ?_;apply yc;refine yn ?_;refine yP (j + 1)
 ·have hj : j = (5 - v).toNat := by omega
  subst hj;apply X.exit;apply yd;apply yb;refine ye ?_;apply X.block;refine zh (ι := Nat) (fun (j : Nat) => [(1, iv v), (2, .ptr 2 0 0 0), (4, .ptr 4 0 0 0), (5, iv (zbD m v (5 - v).toNat)), (6, iv (dbl j)), (8, iv (5 + (j : Int)))]) (fun (j : Nat) => [(2, .box (mnE m) 24), (4, .box [iv 0, iv 0] 46)]) (fun (j : Nat) => j <= (v - 5).toNat) (fun (j : Nat) => (v - 5).toNat - j) 0 (fun j hk => ?_);apply yd;apply yb;refine yn ?_;refine yk rfl ?_ ?_<;>intro hc2
  ·have hb := zsk j (by omega);have hst := zsl j;apply yf;apply yd;apply X.block;apply yc;refine yn ?_;apply yc;refine yn ?_;refine yP (j + 1)
  ·have hj : j = (v - 5).toNat := by omega
   subst hj;apply X.exit;apply yb;(iterate 3 refine ya ?_);refine Ex.mo ?_;apply Ex.nil;refine X.ret ?_;refine RetQ.ret (.one (.cellA rfl rfl rfl rfl ty46 (LeV.eq ?_)));all_goals (rfl)
theorem ziF (m : Mn) (v : Int) : Fn Tryz.prog 116 [mnA m, iv v] (.tup [tmA (if ckMV m v = 0 then fullT m v else tmZ), iv (ckMV m v)]) := by
 refine Fn.go Tryz.func116 Tryz.ntmps116 (fun g w d => ?_);apply yb;refine yF ?_;refine yH ?_;refine ye ?_;apply yd;apply yb;iterate 2 refine ya ?_
 refine yq (zbq m v) ?_;refine ya ?_;apply yj;refine yh ?_;refine yk rfl ?_ ?_<;>intro hc1
 ·apply yb;iterate 2 refine ya ?_
  refine Ex.mo ?_;refine ye ?_;refine X.ret ?_;refine y6 ty46 ?_ ?_;all_goals (first | rfl | (rw [if_neg hc1]; done) | (rw [if_neg hc1]; rfl) | (rw [if_pos hc1]; done) | (rw [if_pos hc1]; rfl) | (rw [hc1]; done) | (rw [hc1]; rfl))
 have h3 := zqG hc1;apply yf;apply yb;iterate 2 refine ya ?_
 refine yq (ziE m v h3.1 h3.2.1 h3.2.2) ?_;refine Ex.mo ?_;refine ye ?_;refine X.ret ?_;refine y6 ty46 ?_ ?_;all_goals (first | rfl | (rw [if_neg hc1]; done) | (rw [if_neg hc1]; rfl) | (rw [if_pos hc1]; done) | (rw [if_pos hc1]; rfl) | (rw [hc1]; done) | (rw [hc1]; rfl))
end Go.Rse
namespace Go.Rse
open Go Go.Proofs
attribute [local irreducible] Pur yx yz Ex X Fn Imp LeV LeB FnO It yC
def Mn.pl (m : Mn) : Bool := decide (m.Max = 2) && decide (m.Mod = 2) && decide (m.Tem = 2) && decide (m.Pro = 2)
def durR (m : Mn) : Nat -> Int -> Tm
 | 0, v => if m.pl = true then mulV (fullT m v) ⟨2, 3⟩ else fullT m v
 | n + 1, v => if m.pl = true then mulV (fullT m v) ⟨2, 3⟩ else if m.p v = 3 then mulV (fullT m v) ⟨2, 3⟩ else mulV (durR m n (v + 1)) ⟨2, 1⟩
def durT (m : Mn) (v : Int) : Tm := durR m (5 - v).toNat v
theorem zoa {m : Mn} {v : Int} (h : m.pl = true) : durT m v = mulV (fullT m v) ⟨2, 3⟩ := by
 unfold durT; cases (5 - v).toNat <;> simp [durR, h]
theorem zmi {m : Mn} {v : Int} (h : m.pl = false) (h5 : 5 <= v) : durT m v = fullT m v := by
 unfold durT; rw [show (5 - v).toNat = 0 by omega]; simp [durR, h]
theorem zqH {m : Mn} {v : Int} (h : m.pl = false) (h5 : v < 5) (h3 : m.p v = 3) : durT m v = mulV (fullT m v) ⟨2, 3⟩ := by
 unfold durT; rw [show (5 - v).toNat = (4 - v).toNat + 1 by omega]; simp [durR, h, h3]
theorem zqI {m : Mn} {v : Int} (h : m.pl = false) (h5 : v < 5) (h3 : ¬ m.p v = 3) : durT m v = mulV (durT m (v + 1)) ⟨2, 1⟩ := by
 unfold durT; rw [show (5 - v).toNat = (5 - (v + 1)).toNat + 1 by omega]; simp [durR, h, h3]
theorem zcb {m : Mn} {v : Int} (hm : ckM m = 0) (h1 : 1 <= v) (h8 : v <= 8) : Fn Tryz.prog 116 [mnA m, iv v] (.tup [tmA (fullT m v), iv 0]) := by
 have h := ziF m v
 have h0 : ckMV m v = 0 := by
  unfold ckM at hm; unfold ckMV;split at hm
  ·rw [if_pos (by assumption), if_pos ⟨h1, h8⟩]
  ·simp at hm
 rw [h0, if_pos rfl] at h; exact h
theorem zgO {m : Mn} {v : Int} (hm : ckM m = 0) (h1 : 1 <= v) (h8 : v <= 8) : Fn Tryz.prog 119 [mnA m, iv v] (.tup [iv (m.p v), iv 0]) := by
 have h := zei m v
 have h0 : ckMV m v = 0 := by
  unfold ckM at hm; unfold ckMV;split at hm
  ·rw [if_pos (by assumption), if_pos ⟨h1, h8⟩]
  ·simp at hm
 rw [h0, if_pos rfl] at h; exact h
attribute [local irreducible] fullT durT mulV
theorem zcF (t : Tm) : Fn Tryz.prog 176 [tmA t] (tmA (mulV t ⟨2, 3⟩)) := by
 refine Fn.go Tryz.func176 Tryz.ntmps176 (fun g w d => ?_);apply yb;refine yF ?_;refine yH ?_;apply yj;iterate 2 refine ya ?_
 refine yq (zdI t ⟨2, 3⟩) ?_;iterate 3 refine ya ?_
 refine yH ?_;refine Ex.mo ?_;refine ya ?_;apply yj;refine ya ?_;refine Ex.mo ?_;apply Ex.nil;refine X.ret ?_;refine RetQ.ret (.one (.cellA rfl rfl rfl rfl ty46 (LeV.eq ?_)));all_goals (rfl)
theorem zgP (m : Mn) (hm : ckM m = 0) (v : Int) (h1 : 1 <= v) (h8 : v <= 8) : FnO Tryz.prog 175 [iv v, .ptr 2000000 0 0 0, .ptr 2000001 0 0 0, .ptr 2000002 0 0 0] [(2000000, .box (mnE m) 24), (2000001, .box [.bool m.pl] 4), (2000002, .box [.fn 175 [.ptr 2000000 0 0 0, .ptr 2000001 0 0 0, .ptr 2000002 0 0 0]] 56)] [2000000, 2000001, 2000002] (tmA (durT m v)) [(2000000, .box (mnE m) 24), (2000001, .box [.bool m.pl] 4), (2000002, .box [.fn 175 [.ptr 2000000 0 0 0, .ptr 2000001 0 0 0, .ptr 2000002 0 0 0]] 56)] := by
 induction hn : (5 - v).toNat using Nat.strongRecOn generalizing v
 rename_i n ih;refine FnO.introX (ts := [(0, iv v), (1, .ptr 2000000 0 0 0), (2, .ptr 2000001 0 0 0), (3, .ptr 2000002 0 0 0)]) (rv := [.cell 5 46]) (n := 47) (cs := [.ptr 2000000 0 0 0, .ptr 2000001 0 0 0, .ptr 2000002 0 0 0]) (by kernel_rfl) Tryz.func175 rfl Tryz.ntmps175 rfl rfl (by simp) rfl rfl rfl rfl (fun g w d vs => ?_);apply yb;refine yH ?_;apply yj;iterate 2 refine ya ?_
 refine yq (zcb hm h1 h8) ?_;iterate 3 refine ya ?_
 refine yH ?_;refine Ex.mo ?_;refine ya ?_;apply yj;iterate 2 refine ya ?_
 refine yq (zgO hm h1 h8) ?_;refine ze ?_;apply yd;apply X.block;apply yb;refine yh ?_;refine yk rfl ?_ ?_<;>intro hc1
 ·have hD := zoa (v := v) hc1;apply yb;refine ya ?_;refine yq (zcF _) ?_;refine Ex.mo ?_;apply Ex.nil;refine X.ret ?_;refine zk9.mk [(5, .ptr 5 0 0 0)] [(5, .box (tmE (mulV (fullT m v) ⟨2, 3⟩)) 46)] (.inr rfl) (.one (.cellA rfl rfl rfl rfl ty46 (LeV.eq ?_)));all_goals (rw [hD])
 apply yb;refine yn ?_;refine yk rfl ?_ ?_<;>intro hc2
 ·have hD := zmi hc1 hc2;apply yb;refine ya ?_;refine Ex.mo ?_;apply Ex.nil;refine X.ret ?_;refine zk9.mk [(5, .ptr 5 0 0 0)] [(5, .box (tmE (fullT m v)) 46)] (.inr rfl) (.one (.cellA rfl rfl rfl rfl ty46 (LeV.eq ?_)));all_goals (rw [hD])
 apply yb;refine yn ?_;refine yk rfl ?_ ?_<;>intro hc3
 ·have hD := zqH hc1 hc2 hc3;apply yb;refine ya ?_;refine yq (zcF _) ?_;refine Ex.mo ?_;apply Ex.nil;refine X.ret ?_;refine zk9.mk [(5, .ptr 5 0 0 0)] [(5, .box (tmE (mulV (fullT m v) ⟨2, 3⟩)) 46)] (.inr rfl) (.one (.cellA rfl rfl rfl rfl ty46 (LeV.eq ?_)));all_goals (rw [hD])
 have hD := zqI hc1 hc2 hc3;apply yf;apply yb;iterate 3 refine ya ?_
 refine z6 [(2000000, 2000000), (2000001, 2000001), (2000002, 2000002)] (ih (5 - (v + 1)).toNat (by omega) (v + 1) (by omega) (by omega) rfl) ?_;refine ya ?_;refine yq (zdI (durT m (v + 1)) ⟨2, 1⟩) ?_;iterate 3 refine ya ?_
 refine yH ?_;refine Ex.mo ?_;refine ya ?_;apply yj;refine ya ?_;refine Ex.mo ?_;apply Ex.nil;refine X.ret ?_;refine zk9.mk [(5, .ptr 5 0 0 0)] [(5, .box (tmE (mulV (durT m (v + 1)) ⟨2, 1⟩)) 46)] (.inr rfl) (.one (.cellA rfl rfl rfl rfl ty46 (LeV.eq ?_)));all_goals (rw [hD])
theorem ziG (m : Mn) (hm : ckM m = 0) (v : Int) (h1 : 1 <= v) (h8 : v <= 8) : Fn Tryz.prog 133 [mnA m, iv v] (tmA (durT m v)) := by
 have hpl : (decide (m.Max = 2) && decide (m.Mod = 2) && decide (m.Tem = 2) && decide (m.Pro = 2)) = m.pl := by unfold Mn.pl; rfl
 refine Fn.go Tryz.func133 Tryz.ntmps133 (fun g w d => ?_);apply yb;refine yF ?_;refine yH ?_;apply yj;iterate 3 refine ya ?_
 refine ExF.at 3 ?_;refine yI ?_;iterate 3 refine ExF.gi ?_
 iterate 2 refine yI ?_
 iterate 3 refine ExF.gi ?_
 iterate 2 refine yI ?_
 iterate 3 refine ExF.gi ?_
 refine yA ?_;refine ya ?_;refine yH ?_;refine Ex.mo ?_;apply yj;refine yH ?_;apply yj;refine ya ?_;refine Ex.mo ?_;apply yj;iterate 2 refine ya ?_
 refine z6 [(2000000, 2), (2000001, 5), (2000002, 6)] (zgP m hm v h1 h8) ?_;refine Ex.mo ?_;apply Ex.nil;refine X.ret ?_;refine RetQ.ret (.one (.cellA rfl rfl rfl rfl ty46 (LeV.eq ?_)));all_goals (rfl)
end Go.Rse
namespace Go.Rse
open Go Go.Proofs
def zeY (f : Mn -> Int -> Bool) : Bool := ([2, 3] : List Int).all fun a => ([2, 3] : List Int).all fun b => ([2, 3] : List Int).all fun c => ([2, 3] : List Int).all fun e => ([1, 2, 3, 4, 5, 6, 7, 8] : List Int).all fun v => f ⟨a, b, c, e⟩ v
theorem zbh {f : Mn -> Int -> Bool} (h : zeY f = true) {m : Mn} {v : Int} (hm : ckM m = 0) (h1 : 1 <= v) (h8 : v <= 8) : f m v = true := by
 have ho : m.Ok := by
  unfold ckM at hm; split at hm
  ·assumption
  ·simp at hm
 obtain ⟨a, b, c, e⟩ := m;have hv : v ∈ ([1, 2, 3, 4, 5, 6, 7, 8] : List Int) := by simp; omega
 have h2 : ∀ x : Int, two3 x -> x ∈ ([2, 3] : List Int) := fun x hx => by simpa [two3] using hx
 unfold zeY at h;exact List.all_eq_true.1 (List.all_eq_true.1 (List.all_eq_true.1 (List.all_eq_true.1 (List.all_eq_true.1 h a (h2 _ ho.1)) b (h2 _ ho.2.1)) c (h2 _ ho.2.2.1)) e (h2 _ ho.2.2.2)) v hv
end Go.Rse
namespace Go.Rse
open Go Go.Proofs
attribute [local irreducible] Pur yx yz Ex X Fn Imp LeV LeB FnO It yC
theorem zqJ {m : Mn} {v : Int} (hm : ckM m = 0) (h1 : 1 <= v) (h8 : v <= 8) : ckMV m v = 0 := by
 unfold ckM at hm; unfold ckMV;split at hm
 ·rw [if_pos (by assumption), if_pos ⟨h1, h8⟩]
 ·simp at hm
def clr (s : Sg) : Bool := decide (s.Kind = 1) && s.Color
def zcs (l : List Sg) (by' : Int) : Nat -> Int -> Option Sg
 | 0, _ => none
 | n + 1, i => if 0 <= i /\ i < (l.length : Int) then (if (l.getD i.toNat default).Kind = 3 then zcs l by' n (i + by') else some (l.getD i.toNat default)) else none
def zeZ (l : List Sg) (by' i : Int) : Option Sg := zcs l by' (l.length + 2) i
theorem zll {l : List Sg} {by' : Int} {n : Nat} {i : Int} (h : ¬ (0 <= i /\ i < (l.length : Int))) : zcs l by' n i = none := by
 cases n with
 | zero => rfl
 | succ n => unfold zcs; rw [if_neg h]
theorem zlm {l : List Sg} {by' : Int} {n : Nat} {i : Int} (h : 0 <= i /\ i < (l.length : Int)) (h3 : ¬ (l.getD i.toNat default).Kind = 3) (hn : 0 < n) : zcs l by' n i = some (l.getD i.toNat default) := by
 cases n with
 | zero => omega
 | succ n => unfold zcs; rw [if_pos h, if_neg h3]
theorem zmj {l : List Sg} {by' : Int} {n : Nat} {i : Int} (h : 0 <= i /\ i < (l.length : Int)) (h3 : (l.getD i.toNat default).Kind = 3) (hn : 0 < n) : zcs l by' n i = zcs l by' (n - 1) (i + by') := by
 cases n with
 | zero => omega
 | succ n => conv => lhs; unfold zcs
             rw [if_pos h, if_pos h3]; rfl
def frB : Option Sg -> Bool
 | some s => !clr s
 | none => true
def zaM (l : List Sg) (i : Int) : Bool := decide (i + 1 < (l.length : Int)) && clr (l.getD i.toNat default) && decide ((l.getD i.toNat default).Value = 4) && clr (l.getD (i + 1).toNat default) && decide ((l.getD (i + 1).toNat default).Value = 5) &&
 !(decide (i + 2 < (l.length : Int)) && decide ((l.getD (i + 2).toNat default).Kind = 3)) && frB (zeZ l (-1) (i - 1)) && frB (zeZ l 1 (i + 2))
attribute [local irreducible] fullT durT mulV tmkT perfL zcs
theorem zam (s : Sg) : Fn Tryz.prog 132 [sgA s] (.bool (clr s)) := by
 refine Fn.go Tryz.func132 Tryz.ntmps132 (fun g w d => ?_);apply yb;refine yF ?_;refine ya ?_;apply yj;iterate 3 refine ya ?_
 refine ExF.at 3 ?_;refine yI ?_;iterate 2 refine ExF.gi ?_
 refine yA ?_;refine yh ?_;refine X.ret ?_;refine ym ?_;all_goals (rfl)
theorem zd5 (l : List Sg) (hl : l.length <= 4000000000) (i b : Int) (hb : b = 1 \/ b = -1) (h0 : -2 <= i) (h1 : i <= (l.length : Int) + 2) (h2 : b = -1 -> i <= (l.length : Int) + 1) : Fn Tryz.prog 209 [sgsA l, iv i, iv b] (.bool (frB (zeZ l b i))) := by
 refine Fn.go Tryz.func209 Tryz.ntmps209 (fun g w d => ?_);apply yb;refine ye ?_;apply yd;apply X.block
 refine zh (ι := Nat × Int) (fun (p : Nat × Int) => [(0, sgsA l), (1, iv p.2), (2, iv b)]) (fun (p : Nat × Int) => []) (fun (p : Nat × Int) => zcs l b (l.length + 2) i = zcs l b p.1 p.2 /\ ((b = 1 /\ (l.length : Int) - p.2 <= (p.1 : Int)) \/ (b = -1 /\ p.2 + 1 <= (p.1 : Int))) /\ -3 <= p.2 /\ p.2 <= (l.length : Int) + 3) (fun (p : Nat × Int) => p.1) (l.length + 2, i) (fun p hk => ?_) (hJ := by
  exact ⟨rfl, by dsimp only; omega, by dsimp only; omega, by dsimp only; omega⟩)
 obtain ⟨n, j⟩ := p;obtain ⟨k1, k2, k3, k4⟩ := hk;dsimp only at *
 apply yd;apply yb;iterate 2 refine ya ?_
 refine ExF.at 2 ?_;refine yI ?_;iterate 4 refine ExF.gi ?_
 refine yA ?_;refine ye ?_;refine yk rfl ?_ ?_<;>intro hc1
 ·apply yf;apply yd;apply X.block;apply yb;iterate 5 refine ya ?_
  refine ye ?_;refine yk rfl ?_ ?_<;>intro hc2
  ·apply yb;(iterate 4 refine ya ?_);refine yq (zam _) ?_;refine yh ?_;refine X.ret ?_;refine ym ?_;all_goals (unfold zeZ; rw [k1, zlm hc1 hc2 (by omega)]; rfl)
  apply yf;apply yc;refine zT ?_
  refine yP ((n - 1, j + b)) (hJ := by
   exact ⟨by rw [k1, zmj hc1 hc2 (by omega)], by dsimp only; omega, by dsimp only; omega, by dsimp only; omega⟩) (hm := by dsimp only; omega)
 ·apply X.exit;apply yb;refine ye ?_;refine X.ret ?_;refine ym ?_;all_goals (unfold zeZ; rw [k1, zll (by omega)]; rfl)
end Go.Rse
namespace Go.Rse
open Go Go.Proofs
attribute [local irreducible] Pur yx yz Ex X Fn Imp LeV LeB FnO It yC
theorem zmk {l : List Sg} {i : Int} (h : (((((l.length : Int) <= i + 1 \/ clr (l.getD i.toNat default) = false) \/ ¬ (l.getD i.toNat default).Value = 4) \/ clr (l.getD (i + 1).toNat default) = false) \/ ¬ (l.getD (i + 1).toNat default).Value = 5)) : zaM l i = false := by
 unfold zaM;rcases h with (((h | h) | h) | h) | h
 ·rw [decide_eq_false (show ¬ i + 1 < (l.length : Int) by omega)]; simp
 ·rw [h]; simp
 ·rw [decide_eq_false h]; simp
 ·rw [h]; simp
 ·rw [decide_eq_false h]; simp
theorem zln {l : List Sg} {i : Int} (h : (((i + 1 < (l.length : Int) /\ clr (l.getD i.toNat default) = true) /\ (l.getD i.toNat default).Value = 4) /\ clr (l.getD (i + 1).toNat default) = true) /\ (l.getD (i + 1).toNat default).Value = 5) : zaM l i = (!(decide (i + 2 < (l.length : Int)) && decide ((l.getD (i + 2).toNat default).Kind = 3)) && frB (zeZ l (-1) (i - 1)) && frB (zeZ l 1 (i + 2))) := by
 unfold zaM;rw [decide_eq_true h.1.1.1.1, h.1.1.1.2, decide_eq_true h.1.1.2, h.1.2, decide_eq_true h.2]; rfl
attribute [local irreducible] zaM zeZ frB clr
theorem zd6 (l : List Sg) (hl : l.length <= 4000000000) (i : Int) (h0 : 0 <= i) (h1 : i < (l.length : Int)) : Fn Tryz.prog 193 [sgsA l, iv i] (.bool (zaM l i)) := by
 refine Fn.go Tryz.func193 Tryz.ntmps193 (fun g w d => ?_);apply yb;refine ye ?_;apply yd;apply yb;iterate 5 refine ya ?_
 refine ExF.at 5 ?_;refine yI ?_;iterate 4 refine ExF.gi ?_
 refine ExF.cg (zam _) ?_;refine ExF.gi ?_;iterate 2 refine yI ?_
 iterate 6 refine ExF.gi ?_
 iterate 2 refine yI ?_
 iterate 5 refine ExF.gi ?_
 refine ExF.cg (zam _) ?_;refine ExF.gi ?_;iterate 2 refine yI ?_
 iterate 7 refine ExF.gi ?_
 refine yA ?_;refine ye ?_;refine yk rfl ?_ ?_<;>intro hc1
 ·apply yb;refine ye ?_;refine X.ret ?_;refine ym ?_;all_goals (rw [zmk hc1])
 apply yf;apply yb;iterate 5 refine ya ?_
 refine ExF.at 5 ?_;refine yI ?_;iterate 7 refine ExF.gi ?_
 refine yA ?_;iterate 2 refine ya ?_
 apply yj;iterate 2 refine ya ?_
 refine ExF.at 2 ?_;refine yI ?_;iterate 3 refine ExF.gi ?_
 refine ExF.cg (zd5 l hl (i - 1) (-1) (.inr rfl) (by omega) (by omega) (by omega)) ?_;iterate 2 refine yI ?_
 iterate 3 refine ExF.gi ?_
 refine ExF.cg (zd5 l hl (i + 2) 1 (.inl rfl) (by omega) (by omega) (by omega)) ?_;refine yA ?_;refine yh ?_;refine X.ret ?_;refine ym ?_;all_goals (rw [zln hc1])
end Go.Rse
namespace Go.Rse
open Go Go.Proofs
theorem ziH (a : Int) : coll posI [a] = if 0 < a then [a] else [] := by
 unfold coll dl posI srtI;by_cases h : 0 < a
 ·simp only [h, if_true, List.filter_cons, decide_true, Bool.not_true, Bool.not_false, List.filter_nil, List.mergeSort_singleton];simp [Lib.compact, Lib.compactUpTo, Lib.keeps, List.range_succ]
 ·simp only [h, if_false, List.filter_cons, decide_false, Bool.not_true, Bool.not_false, List.filter_nil, List.mergeSort_nil];simp [Lib.compact, Lib.compactUpTo]
theorem srt2 {a v : Int} (h : a < v) : srtI [v, a] = [a, v] := by
 unfold srtI;have h1 : ¬ v <= a := by omega
 simp [List.mergeSort, List.MergeSort.Internal.splitInTwo, List.merge, h1]
theorem zml {v a : Int} (hv : 0 < v) (ha : a < v) : coll posI [v, a] = if 0 < a then [a, v] else [v] := by
 unfold coll;by_cases h : 0 < a
 ·have e : dl (fun v => !posI v) [v, a] = [v, a] := by simp [dl, posI, h, hv]
  rw [e, srt2 ha, if_pos h];have h2 : ¬ v = a := by omega
  have h3 : ¬ a = v := by omega
  simp [Lib.compact, Lib.compactUpTo, Lib.keeps, List.range_succ, h2, h3]
 ·have e : dl (fun v => !posI v) [v, a] = [v] := by simp [dl, posI, h, hv]
  rw [e, if_neg h];simp [srtI, Lib.compact, Lib.compactUpTo, Lib.keeps, List.range_succ]
theorem zqK (m : Mn) {v : Int} (h : 1 <= v) : 0 <= m.ab v /\ m.ab v < v := by
 unfold Mn.ab;cases e : (perfL m).find? fun k => decide (k < v) with
 | none => simp; omega
 | some k =>
  have h1 := List.find?_some e;have h2 := List.mem_of_find?_eq_some e;have h3 := (List.mem_filter.1 h2).1;simp at h1 h3 ⊢;omega
theorem p23 {m : Mn} {v : Int} (hM : ckM m = 0) : m.p v = 2 \/ m.p v = 3 := by
 have hO : m.Ok := by
  unfold ckM at hM; split at hM
  ·assumption
  ·omega
 obtain ⟨a, b, c, d⟩ := hO;unfold two3 at *
 unfold Mn.p;split
 ·assumption
 ·split
  ·assumption
  ·split
   ·assumption
   ·split
    ·assumption
    ·exact .inl rfl
theorem zg7 {m : Mn} {v : Int} (hM : ckM m = 0) (h1 : 1 <= v) (h2 : v <= 8) : ckMV m v = 0 := by
 have hO : m.Ok := by
  unfold ckM at hM; split at hM
  ·assumption
  ·omega
 unfold ckMV; rw [if_pos hO, if_pos ⟨h1, h2⟩]
theorem zhQ {m : Mn} {v : Int} (h1 : 1 <= v) : 0 <= m.aV v /\ m.aV v < v := by
 have := zqK m h1;unfold Mn.aV;split
 ·exact this
 ·omega
def mngR (m : Mn) (s : Sg) : List Int :=
 if s.Kind = 2 then [m.aV s.Value] else if s.Color = true then [0] else if m.p s.Value = 2 /\ m.aV s.Value = 0 then [0] else if m.p s.Value = 2 then [0, m.aV s.Value] else if m.aV s.Value = 0 then [s.Value] else [m.aV s.Value, s.Value]
theorem zjB {m : Mn} {s : Sg} (hM : ckM m = 0) (h1 : 1 <= s.Value) (h2 : s.Value <= 8) (hz : ¬ (s.Kind = 2 /\ m.aV s.Value = 0)) : mngs m s = mngR m s := by
 have ha := zhQ (m := m) h1;have hp := p23 (m := m) (v := s.Value) hM;have hpV : m.pV s.Value = m.p s.Value := by unfold Mn.pV; rw [if_pos (zg7 hM h1 h2)]
 unfold mngs mngR;rw [hpV, ziH];by_cases hK : s.Kind = 2
 ·have : 0 < m.aV s.Value := by
   have : ¬ m.aV s.Value = 0 := fun h => hz ⟨hK, h⟩
   omega
  rw [if_pos hK, if_pos hK, if_pos this]
 ·rw [if_neg hK, if_neg hK];by_cases hC : s.Color = true
  ·rw [if_pos hC, if_pos hC]
  ·rw [if_neg hC, if_neg hC];rcases hp with hp | hp
   ·by_cases h0 : m.aV s.Value = 0
    ·simp [hp, h0]
    ·have h4 : 0 < m.aV s.Value := by omega
     simp [hp, h0, h4]
   ·rw [zml (by omega) ha.2];by_cases h0 : m.aV s.Value = 0
    ·simp [hp, h0]
    ·have h4 : 0 < m.aV s.Value := by omega
     simp [hp, h0, h4]
theorem zdc {m : Mn} {s : Sg} (hM : ckM m = 0) (h1 : 1 <= s.Value) (h2 : s.Value <= 8) : (mngs m s).length = 0 ↔ (s.Kind = 2 /\ m.aV s.Value = 0) := by
 constructor
 ·intro h;refine Classical.byContradiction fun hz => ?_
  rw [zjB hM h1 h2 hz] at h;unfold mngR at h;split at h
  ·simp at h
  ·split at h
   ·simp at h
   ·split at h
    ·simp at h
    ·split at h
     ·simp at h
     ·split at h <;> simp at h
 ·rintro ⟨hK, h0⟩
  unfold mngs;rw [if_pos hK, ziH, if_neg (by omega)]; rfl
def sgR (m : Mn) (l : List Sg) (k : Nat) (s : Sg) : Int :=
 if s.Kind = 1 \/ s.Kind = 2 then (if 1 <= s.Value /\ s.Value <= 8 then 0 else 2)
 else if s.Kind = 3 then (match k with | 0 => 13 | j + 1 => match l[j]? with | some p => if p.Kind = 3 \/ (p.Kind = 2 /\ m.aV p.Value = 0) then 13 else 0 | none => 13)
 else 8
def zbb (m : Mn) (l : List Sg) : Nat -> List Sg -> Int
 | _, [] => 0
 | k, s :: r => if sgR m l k s = 0 then zbb m l (k + 1) r else sgR m l k s
def ckR (m : Mn) (l : List Sg) : Int := if ckM m = 0 then zbb m l 0 l else ckM m
theorem zf3 {m : Mn} {l : List Sg} {k : Nat} {s : Sg} (h : l[k]? = some s) (h0 : sgR m l k s = 0) : zbb m l k (l.drop k) = zbb m l (k + 1) (l.drop (k + 1)) := by
 have hk : k < l.length := (List.getElem?_eq_some_iff.1 h).1;rw [List.drop_eq_getElem_cons hk];have : l[k] = s := (List.getElem?_eq_some_iff.1 h).2;rw [this]; simp only [zbb, h0, if_true]
theorem ziI {m : Mn} {l : List Sg} {k : Nat} {s : Sg} (h : l[k]? = some s) (h0 : sgR m l k s ≠ 0) : zbb m l k (l.drop k) = sgR m l k s := by
 have hk : k < l.length := (List.getElem?_eq_some_iff.1 h).1;rw [List.drop_eq_getElem_cons hk];have : l[k] = s := (List.getElem?_eq_some_iff.1 h).2;rw [this]; simp only [zbb, if_neg h0]
theorem zkm {m : Mn} {l : List Sg} {k : Nat} {s : Sg} (h0 : sgF m l k s = 0) (hK : s.Kind ≠ 3) : (s.Kind = 1 \/ s.Kind = 2) /\ 1 <= s.Value /\ s.Value <= 8 := by
 unfold sgF at h0;by_cases h : s.Kind = 1 \/ s.Kind = 2
 ·rw [if_pos h] at h0;refine ⟨h, ?_⟩;by_cases hv : 1 <= s.Value /\ s.Value <= 8
  ·exact hv
  ·rw [if_neg hv] at h0; simp at h0
 ·rw [if_neg h, if_neg hK] at h0; simp at h0
theorem zsm {m : Mn} {l : List Sg} {k : Nat} {s : Sg} (hM : ckM m = 0) (hs : l[k]? = some s) (hb : ∀ i s, i < k -> l[i]? = some s -> sgF m l i s = 0) : sgF m l k s = sgR m l k s := by
 unfold sgF sgR;by_cases h : s.Kind = 1 \/ s.Kind = 2
 ·rw [if_pos h, if_pos h]
 ·rw [if_neg h, if_neg h];by_cases h3 : s.Kind = 3
  ·rw [if_pos h3, if_pos h3];cases k with
   | zero => rfl
   | succ j =>
    cases hp : l[j]? with
    | none => simp only [hp]
    | some p =>
     simp only [hp];by_cases hk3 : p.Kind = 3
     ·rw [if_pos (.inl hk3), if_pos (.inl hk3)]
     ·obtain ⟨_, h1, h2⟩ := zkm (hb j p (by omega) hp) hk3;by_cases hz : (mngs m p).length = 0
      ·rw [if_pos (.inr hz), if_pos (.inr ((zdc hM h1 h2).1 hz))]
      ·rw [if_neg (fun h => h.elim hk3 hz), if_neg (fun h => h.elim hk3 (fun h => hz ((zdc hM h1 h2).2 h)))]
  ·rw [if_neg h3, if_neg h3]
theorem ziJ {m : Mn} {l : List Sg} (hM : ckM m = 0) : ∀ (n k : Nat), l.length - k = n -> k <= l.length -> (∀ i s, i < k -> l[i]? = some s -> sgF m l i s = 0) -> zK m l k (l.drop k) = zbb m l k (l.drop k)
 | 0, k, hn, hk, hb => by
  rw [List.drop_of_length_le (by omega)]; rfl
 | n + 1, k, hn, hk, hb => by
  have hs : l[k]? = some l[k] := lgg (by omega);have he := zsm hM hs hb;by_cases h0 : sgF m l k l[k] = 0
  ·rw [zb3 hs h0, zf3 hs (by rw [← he]; exact h0)];refine ziJ hM n (k + 1) (by omega) (by omega) fun i s hi hsi => ?_
   rcases Nat.lt_succ_iff_lt_or_eq.1 hi with h | h
   ·exact hb i s h hsi
   ·subst h; rw [hs] at hsi; injection hsi with hsi; subst hsi; exact h0
  ·rw [zaQ hs h0, ziI hs (by rw [← he]; exact h0), he]
theorem zsn (m : Mn) (l : List Sg) : ckD m l = ckR m l := by
 unfold ckD ckR;by_cases hM : ckM m = 0
 ·rw [if_pos hM, if_pos hM];have := ziJ (l := l) hM l.length 0 rfl (Nat.zero_le _) (fun i s h => absurd h (Nat.not_lt_zero i));simpa using this
 ·rw [if_neg hM, if_neg hM]
theorem zd7 {m : Mn} {l : List Sg} (h : ckD m l = 0) : ckM m = 0 /\ zK m l 0 l = 0 := by
 unfold ckD at h;by_cases hM : ckM m = 0
 ·rw [if_pos hM] at h; exact ⟨hM, h⟩
 ·rw [if_neg hM] at h; exact absurd h hM
theorem zqL {m : Mn} {l : List Sg} (h : ckD m l = 0) {j : Nat} {s p : Sg} (hs : l[j + 1]? = some s) (h3 : s.Kind = 3) (hp : l[j]? = some p) :
 p.Kind ≠ 3 /\ (p.Kind = 1 \/ p.Kind = 2) /\ 1 <= p.Value /\ p.Value <= 8 /\ ¬ (p.Kind = 2 /\ m.aV p.Value = 0) /\ mngs m p = mngR m p := by
 obtain ⟨hM, hF⟩ := zd7 h;have hall := (zan hF l.length (Nat.le_refl _)).2;have h0 := hall (j + 1) s (List.getElem?_eq_some_iff.1 hs).1 hs;unfold sgF at h0;rw [if_neg (by omega), if_pos h3] at h0;simp only [hp] at h0;have hk : ¬ (p.Kind = 3 \/ (mngs m p).length = 0) := fun h => by rw [if_pos h] at h0; simp at h0
 have hk3 : p.Kind ≠ 3 := fun h => hk (.inl h)
 obtain ⟨h5, h1, h2⟩ := zkm (hall j p (List.getElem?_eq_some_iff.1 hp).1 hp) hk3;have hz : ¬ (p.Kind = 2 /\ m.aV p.Value = 0) := fun h => hk (.inr ((zdc hM h1 h2).2 h))
 exact ⟨hk3, h5, h1, h2, hz, zjB hM h1 h2 hz⟩
theorem zf4 {l : List Sg} : ∀ (k : Nat) (x : Int), x ∈ yT l k -> ∃ (j : Nat) (s : Sg), x = (j : Int) /\ l[j]? = some s /\ s.Kind = 3
 | 0, x, hx => by simp [yT] at hx
 | k + 1, x, hx => by
  simp only [yT, List.mem_append] at hx;rcases hx with hx | hx
  ·exact zf4 k x hx
  ·cases hs : l[k]? with
   | none => simp [hs] at hx
   | some s =>
    simp only [hs] at hx;split at hx
    ·rename_i hK; simp at hx; exact ⟨k, s, hx, hs, hK⟩
    ·simp at hx
theorem zob {m : Mn} {l : List Sg} (h : ckD m l = 0) {x : Int} (hx : x ∈ yT l l.length) : ∃ (j : Nat) (s p : Sg), x = ((j + 1 : Nat) : Int) /\ l[j + 1]? = some s /\ s.Kind = 3 /\ l[j]? = some p /\ zfV l x = some p := by
 obtain ⟨j, s, p, h1, h2, h3⟩ := zdb (zd7 h).2 l.length (Nat.le_refl _) x hx;obtain ⟨j', s', h4, h5, h6⟩ := zf4 l.length x hx;have : j' = j + 1 := by omega
 subst this;rw [h2] at h5; injection h5 with h5; subst h5;refine ⟨j, s, p, h1, h2, h6, h3, ?_⟩;unfold zfV;rw [show (x - 1).toNat = j by omega]; exact h3
def ownV : List Int -> Int -> Int
 | [], _ => 0
 | x :: r, v => if x = 0 \/ x = v then x else ownV r v
def zfu (m : Mn) (l : List Sg) (i : Int) (p : Sg) : Int :=
 if (mngR m p).length = 1 then (mngR m p).headD 0 else if zg2 l i > p.Value then ownV (mngR m p) p.Value else m.aV p.Value
theorem zmm {m : Mn} {l : List Sg} {i : Int} {p : Sg} (hM : ckM m = 0) (h1 : 1 <= p.Value) (h2 : p.Value <= 8) (he : mngs m p = mngR m p) : zfX m l i p = zfu m l i p := by
 have ha := zhQ (m := m) h1;have hp := p23 (m := m) (v := p.Value) hM;have hpV : m.pV p.Value = m.p p.Value := by unfold Mn.pV; rw [if_pos (zg7 hM h1 h2)]
 unfold zfX zfu;rw [he, hpV];unfold mngR;split
 ·simp
 ·split
  ·simp
  ·split
   ·simp
   ·split
    ·rename_i h3 h4 h5 h6;have : ¬ m.aV p.Value = 0 := fun h => h5 ⟨h6, h⟩
     by_cases hn : zg2 l i <= p.Value
     ·simp [hn]; omega
     ·simp [hn, ownV, h6]
    ·split
     ·simp
     ·rename_i h3 h4 h5 h6 h7;by_cases hn : zg2 l i <= p.Value
      ·simp [hn]; omega
      ·have h8 : m.p p.Value = 3 := by omega
       have h9 : ¬ m.aV p.Value = p.Value := by omega
       simp [hn, ownV, h8, h7, h9]
end Go.Rse
namespace Go.Rse
open Go Go.Proofs
attribute [local irreducible] Pur yx yz Ex X Fn Imp LeV LeB FnO It yC
end Go.Rse
