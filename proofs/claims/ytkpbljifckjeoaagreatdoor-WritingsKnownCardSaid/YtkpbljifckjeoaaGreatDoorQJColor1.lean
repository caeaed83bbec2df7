/-
  Walks: colored durations.
-/
import Derived.Test.YtkpbljifckjeoaaGreatDoorQJSpan1
import Derived.Test.YtkpbljifckjeoaaGreatDoorQLogC
set_option linter.unusedSimpArgs false
set_option linter.unusedVariables false
namespace Go.Rse
open Go Go.Proofs
attribute [local irreducible] Pur yC yE Ex X Fn Imp LeV LeB FnO It yJ
def Mn.pl (m : Mn) : Bool := decide (m.Max = 2) && decide (m.Mod = 2) && decide (m.Tem = 2) && decide (m.Pro = 2)
def durR (m : Mn) : Nat -> Int -> Tm
 | 0, v => if m.pl = true then mulV (zd m v) ⟨2, 3⟩ else zd m v
 | n + 1, v => if m.pl = true then mulV (zd m v) ⟨2, 3⟩ else if m.p v = 3 then mulV (zd m v) ⟨2, 3⟩ else mulV (durR m n (v + 1)) ⟨2, 1⟩
def durT (m : Mn) (v : Int) : Tm := durR m (5 - v).toNat v
theorem znd {m : Mn} {v : Int} (h : m.pl = true) : durT m v = mulV (zd m v) ⟨2, 3⟩ := by
 unfold durT; cases (5 - v).toNat <;> simp [durR, h]
theorem zlC {m : Mn} {v : Int} (h : m.pl = false) (h5 : 5 <= v) : durT m v = zd m v := by
 unfold durT; rw [show (5 - v).toNat = 0 by omega]; simp [durR, h]
theorem zpH {m : Mn} {v : Int} (h : m.pl = false) (h5 : v < 5) (h3 : m.p v = 3) : durT m v = mulV (zd m v) ⟨2, 3⟩ := by
 unfold durT; rw [show (5 - v).toNat = (4 - v).toNat + 1 by omega]; simp [durR, h, h3]
theorem zpI {m : Mn} {v : Int} (h : m.pl = false) (h5 : v < 5) (h3 : ¬ m.p v = 3) : durT m v = mulV (durT m (v + 1)) ⟨2, 1⟩ := by
 unfold durT; rw [show (5 - v).toNat = (5 - (v + 1)).toNat + 1 by omega]; simp [durR, h, h3]
theorem zbs {m : Mn} {v : Int} (hm : ckM m = 0) (h1 : 1 <= v) (h8 : v <= 8) : Fn Tryz.prog 129 [mnA m, iv v] (.tup [tmA (zd m v), iv 0]) := by
 have h := ziY m v
 have h0 : ckMV m v = 0 := by
  unfold ckM at hm; unfold ckMV;split at hm
  ·rw [if_pos (by assumption), if_pos ⟨h1, h8⟩]
  ·simp at hm
 rw [h0, if_pos rfl] at h; exact h
theorem zdL {m : Mn} {v : Int} (hm : ckM m = 0) (h1 : 1 <= v) (h8 : v <= 8) : Fn Tryz.prog 76 [mnA m, iv v] (.tup [iv (m.p v), iv 0]) := by
 have h := zcw m v
 have h0 : ckMV m v = 0 := by
  unfold ckM at hm; unfold ckMV;split at hm
  ·rw [if_pos (by assumption), if_pos ⟨h1, h8⟩]
  ·simp at hm
 rw [h0, if_pos rfl] at h; exact h
attribute [local irreducible] zd durT mulV
theorem zcT (t : Tm) : Fn Tryz.prog 171 [tmA t] (tmA (mulV t ⟨2, 3⟩)) := by
 refine Fn.go Tryz.func171 Tryz.ntmps171 (fun g w d => ?_);apply yb;refine yF ?_;refine yD ?_;apply yi;iterate 2 refine ya ?_
 refine yj (zcv t ⟨2, 3⟩) ?_;iterate 3 refine ya ?_
 refine yD ?_;refine Ex.mo ?_;refine ya ?_;apply yi;refine ya ?_;refine Ex.mo ?_;apply Ex.nil;refine X.ret ?_;refine RetQ.ret (.one (.cellA rfl rfl rfl rfl ty25 (LeV.eq ?_)));all_goals (rfl)
theorem zgU (m : Mn) (hm : ckM m = 0) (v : Int) (h1 : 1 <= v) (h8 : v <= 8) : FnO Tryz.prog 170 [iv v, .ptr 2000000 0 0 0, .ptr 2000001 0 0 0, .ptr 2000002 0 0 0] [(2000000, .box (mnE m) 32), (2000001, .box [.bool m.pl] 4), (2000002, .box [.fn 170 [.ptr 2000000 0 0 0, .ptr 2000001 0 0 0, .ptr 2000002 0 0 0]] 224)] [2000000, 2000001, 2000002] (tmA (durT m v)) [(2000000, .box (mnE m) 32), (2000001, .box [.bool m.pl] 4), (2000002, .box [.fn 170 [.ptr 2000000 0 0 0, .ptr 2000001 0 0 0, .ptr 2000002 0 0 0]] 224)] := by
 induction hn : (5 - v).toNat using Nat.strongRecOn generalizing v
 rename_i n ih;refine FnO.introX (ts := [(0, iv v), (1, .ptr 2000000 0 0 0), (2, .ptr 2000001 0 0 0), (3, .ptr 2000002 0 0 0)]) (rv := [.cell 5 25]) (n := 47) (cs := [.ptr 2000000 0 0 0, .ptr 2000001 0 0 0, .ptr 2000002 0 0 0]) (by kernel_rfl) Tryz.func170 rfl Tryz.ntmps170 rfl rfl (by simp) rfl rfl rfl rfl (fun g w d vs => ?_);apply yb;refine yD ?_;apply yi;iterate 2 refine ya ?_
 refine yj (zbs hm h1 h8) ?_;iterate 3 refine ya ?_
 refine yD ?_;refine Ex.mo ?_;refine ya ?_;apply yi;iterate 2 refine ya ?_
 refine yj (zdL hm h1 h8) ?_;refine zu ?_;apply yd;apply X.block;apply yb;refine yg ?_;refine yl rfl ?_ ?_<;>intro hc1
 ·have hD := znd (v := v) hc1;apply yb;refine ya ?_;refine yj (zcT _) ?_;refine Ex.mo ?_;apply Ex.nil;refine X.ret ?_;refine zhC.mk [(5, .ptr 5 0 0 0)] [(5, .box (tmE (mulV (zd m v) ⟨2, 3⟩)) 25)] (.inr rfl) (.one (.cellA rfl rfl rfl rfl ty25 (LeV.eq ?_)));all_goals (rw [hD])
 apply yb;refine yo ?_;refine yl rfl ?_ ?_<;>intro hc2
 ·have hD := zlC hc1 hc2;apply yb;refine ya ?_;refine Ex.mo ?_;apply Ex.nil;refine X.ret ?_;refine zhC.mk [(5, .ptr 5 0 0 0)] [(5, .box (tmE (zd m v)) 25)] (.inr rfl) (.one (.cellA rfl rfl rfl rfl ty25 (LeV.eq ?_)));all_goals (rw [hD])
 apply yb;refine yo ?_;refine yl rfl ?_ ?_<;>intro hc3
 ·have hD := zpH hc1 hc2 hc3;apply yb;refine ya ?_;refine yj (zcT _) ?_;refine Ex.mo ?_;apply Ex.nil;refine X.ret ?_;refine zhC.mk [(5, .ptr 5 0 0 0)] [(5, .box (tmE (mulV (zd m v) ⟨2, 3⟩)) 25)] (.inr rfl) (.one (.cellA rfl rfl rfl rfl ty25 (LeV.eq ?_)));all_goals (rw [hD])
 have hD := zpI hc1 hc2 hc3;apply yf;apply yb;iterate 3 refine ya ?_
 refine zaA [(2000000, 2000000), (2000001, 2000001), (2000002, 2000002)] (ih (5 - (v + 1)).toNat (by omega) (v + 1) (by omega) (by omega) rfl) ?_;refine ya ?_;refine yj (zcv (durT m (v + 1)) ⟨2, 1⟩) ?_;iterate 3 refine ya ?_
 refine yD ?_;refine Ex.mo ?_;refine ya ?_;apply yi;refine ya ?_;refine Ex.mo ?_;apply Ex.nil;refine X.ret ?_;refine zhC.mk [(5, .ptr 5 0 0 0)] [(5, .box (tmE (mulV (durT m (v + 1)) ⟨2, 1⟩)) 25)] (.inr rfl) (.one (.cellA rfl rfl rfl rfl ty25 (LeV.eq ?_)));all_goals (rw [hD])
theorem ze8 (m : Mn) (hm : ckM m = 0) (v : Int) (h1 : 1 <= v) (h8 : v <= 8) : Fn Tryz.prog 128 [mnA m, iv v] (tmA (durT m v)) := by
 have hpl : (decide (m.Max = 2) && decide (m.Mod = 2) && decide (m.Tem = 2) && decide (m.Pro = 2)) = m.pl := by unfold Mn.pl; rfl
 refine Fn.go Tryz.func128 Tryz.ntmps128 (fun g w d => ?_);apply yb;refine yF ?_;refine yD ?_;apply yi;iterate 3 refine ya ?_
 refine ExF.at 3 ?_;refine yG ?_;iterate 3 refine ExF.gi ?_
 iterate 2 refine yG ?_
 iterate 3 refine ExF.gi ?_
 iterate 2 refine yG ?_
 iterate 3 refine ExF.gi ?_
 refine yH ?_;refine ya ?_;refine yD ?_;refine Ex.mo ?_;apply yi;refine yD ?_;apply yi;refine ya ?_;refine Ex.mo ?_;apply yi;iterate 2 refine ya ?_
 refine zaA [(2000000, 2), (2000001, 5), (2000002, 6)] (zgU m hm v h1 h8) ?_;refine Ex.mo ?_;apply Ex.nil;refine X.ret ?_;refine RetQ.ret (.one (.cellA rfl rfl rfl rfl ty25 (LeV.eq ?_)));all_goals (rfl)
theorem ziC (m : Mn) (v : Int) : Fn Tryz.prog 192 [mnA m, iv v] (.tup [tmA (if ckMV m v = 0 then durT m v else tmZ), iv (ckMV m v)]) := by
 refine Fn.go Tryz.func192 Tryz.ntmps192 (fun g w d => ?_);apply yb;refine yF ?_;refine yD ?_;refine ye ?_;apply yd;apply yb;refine ya ?_;refine yj (zaq m) ?_;refine ya ?_;apply yi;refine yg ?_;refine yl rfl ?_ ?_<;>intro hc1
 ·have hE : ckMV m v = ckM m := by unfold ckMV ckM at *; split <;> simp_all
  apply yb;iterate 2 refine ya ?_
  refine Ex.mo ?_;refine ye ?_;refine X.ret ?_;refine za ty25 ?_ ?_;all_goals (first | (rw [hE]; done) | (rw [hE, if_pos rfl]; done) | (rw [hE, if_pos rfl]; rfl) | (rw [hE, if_neg hc1]; rfl) | (rw [hE]; rfl))
 apply yf;apply yd;apply yb;iterate 2 refine ya ?_
 refine ExF.at 2 ?_;refine yG ?_;iterate 2 refine ExF.gi ?_
 refine yH ?_;refine ye ?_;refine yl rfl ?_ ?_<;>intro hc2
 ·have hE : ckMV m v = 2 := by unfold ckM at hc1; unfold ckMV; split at hc1 <;> simp_all; omega
  apply yb;refine ya ?_;refine Ex.mo ?_;refine ye ?_;refine X.ret ?_;refine za ty25 ?_ ?_;all_goals (first | (rw [hE]; done) | (rw [hE, if_pos rfl]; done) | (rw [hE, if_pos rfl]; rfl) | (rw [hE, if_neg hc1]; rfl) | (rw [hE]; rfl))
 have hE : ckMV m v = 0 := by unfold ckM at hc1; unfold ckMV; split at hc1 <;> simp_all <;> omega
 apply yf;apply yb;iterate 2 refine ya ?_
 refine yj (ze8 m hc1 v (by omega) (by omega)) ?_;refine Ex.mo ?_;refine ye ?_;refine X.ret ?_;refine za ty25 ?_ ?_;all_goals (first | (rw [hE]; done) | (rw [hE, if_pos rfl]; done) | (rw [hE, if_pos rfl]; rfl) | (rw [hE, if_neg hc1]; rfl) | (rw [hE]; rfl))
end Go.Rse
namespace Go.Rse
open Go Go.Proofs
def zlD (f : Mn -> Int -> Bool) : Bool := ([2, 3] : List Int).all fun a => ([2, 3] : List Int).all fun b => ([2, 3] : List Int).all fun c => ([2, 3] : List Int).all fun e => ([1, 2, 3, 4, 5, 6, 7, 8] : List Int).all fun v => f ⟨a, b, c, e⟩ v
theorem zk8 {f : Mn -> Int -> Bool} (h : zlD f = true) {m : Mn} {v : Int} (hm : ckM m = 0) (h1 : 1 <= v) (h8 : v <= 8) : f m v = true := by
 have ho : m.Ok := by
  unfold ckM at hm; split at hm
  ·assumption
  ·simp at hm
 obtain ⟨a, b, c, e⟩ := m;have hv : v ∈ ([1, 2, 3, 4, 5, 6, 7, 8] : List Int) := by simp; omega
 have h2 : ∀ x : Int, two3 x -> x ∈ ([2, 3] : List Int) := fun x hx => by simpa [two3] using hx
 unfold zlD at h;exact List.all_eq_true.1 (List.all_eq_true.1 (List.all_eq_true.1 (List.all_eq_true.1 (List.all_eq_true.1 h a (h2 _ ho.1)) b (h2 _ ho.2.1)) c (h2 _ ho.2.2.1)) e (h2 _ ho.2.2.2)) v hv
end Go.Rse
namespace Go.Rse
open Go Go.Proofs
attribute [local irreducible] Pur yC yE Ex X Fn Imp LeV LeB FnO It yJ
theorem zpJ {m : Mn} {v : Int} (hm : ckM m = 0) (h1 : 1 <= v) (h8 : v <= 8) : ckMV m v = 0 := by
 unfold ckM at hm; unfold ckMV;split at hm
 ·rw [if_pos (by assumption), if_pos ⟨h1, h8⟩]
 ·simp at hm
def clr (s : Sg) : Bool := decide (s.Kind = 1) && s.Color
def zcJ (l : List Sg) (by' : Int) : Nat -> Int -> Option Sg
 | 0, _ => none
 | n + 1, i => if 0 <= i /\ i < (l.length : Int) then (if (l.getD i.toNat default).Kind = 3 then zcJ l by' n (i + by') else some (l.getD i.toNat default)) else none
def ze9 (l : List Sg) (by' i : Int) : Option Sg := zcJ l by' (l.length + 2) i
theorem zk9 {l : List Sg} {by' : Int} {n : Nat} {i : Int} (h : ¬ (0 <= i /\ i < (l.length : Int))) : zcJ l by' n i = none := by
 cases n with
 | zero => rfl
 | succ n => unfold zcJ; rw [if_neg h]
theorem zla {l : List Sg} {by' : Int} {n : Nat} {i : Int} (h : 0 <= i /\ i < (l.length : Int)) (h3 : ¬ (l.getD i.toNat default).Kind = 3) (hn : 0 < n) : zcJ l by' n i = some (l.getD i.toNat default) := by
 cases n with
 | zero => omega
 | succ n => unfold zcJ; rw [if_pos h, if_neg h3]
theorem zlE {l : List Sg} {by' : Int} {n : Nat} {i : Int} (h : 0 <= i /\ i < (l.length : Int)) (h3 : (l.getD i.toNat default).Kind = 3) (hn : 0 < n) : zcJ l by' n i = zcJ l by' (n - 1) (i + by') := by
 cases n with
 | zero => omega
 | succ n => conv => lhs; unfold zcJ
             rw [if_pos h, if_pos h3]; rfl
def frB : Option Sg -> Bool
 | some s => !clr s
 | none => true
def za6 (l : List Sg) (i : Int) : Bool := decide (i + 1 < (l.length : Int)) && clr (l.getD i.toNat default) && decide ((l.getD i.toNat default).Value = 4) && clr (l.getD (i + 1).toNat default) && decide ((l.getD (i + 1).toNat default).Value = 5) &&
 !(decide (i + 2 < (l.length : Int)) && decide ((l.getD (i + 2).toNat default).Kind = 3)) && frB (ze9 l (-1) (i - 1)) && frB (ze9 l 1 (i + 2))
attribute [local irreducible] zd durT mulV tmkT perfL zcJ
theorem zaB (s : Sg) : Fn Tryz.prog 127 [sgA s] (.bool (clr s)) := by
 refine Fn.go Tryz.func127 Tryz.ntmps127 (fun g w d => ?_);apply yb;refine yF ?_;refine ya ?_;apply yi;iterate 3 refine ya ?_
 refine ExF.at 3 ?_;refine yG ?_;iterate 2 refine ExF.gi ?_
 refine yH ?_;refine yg ?_;refine X.ret ?_;refine yh ?_;all_goals (rfl)
theorem zec (l : List Sg) (hl : l.length <= 4000000000) (i b : Int) (hb : b = 1 \/ b = -1) (h0 : -2 <= i) (h1 : i <= (l.length : Int) + 2) (h2 : b = -1 -> i <= (l.length : Int) + 1) : Fn Tryz.prog 221 [sgsA l, iv i, iv b] (.bool (frB (ze9 l b i))) := by
 refine Fn.go Tryz.func221 Tryz.ntmps221 (fun g w d => ?_);apply yb;refine ye ?_;apply yd;apply X.block
 refine zl (ι := Nat × Int) (fun (p : Nat × Int) => [(0, sgsA l), (1, iv p.2), (2, iv b)]) (fun (p : Nat × Int) => []) (fun (p : Nat × Int) => zcJ l b (l.length + 2) i = zcJ l b p.1 p.2 /\ ((b = 1 /\ (l.length : Int) - p.2 <= (p.1 : Int)) \/ (b = -1 /\ p.2 + 1 <= (p.1 : Int))) /\ -3 <= p.2 /\ p.2 <= (l.length : Int) + 3) (fun (p : Nat × Int) => p.1) (l.length + 2, i) (fun p hk => ?_) (hJ := by
  exact ⟨rfl, by dsimp only; omega, by dsimp only; omega, by dsimp only; omega⟩)
 obtain ⟨n, j⟩ := p;obtain ⟨k1, k2, k3, k4⟩ := hk;dsimp only at *
 apply yd;apply yb;iterate 2 refine ya ?_
 refine ExF.at 2 ?_;refine yG ?_;iterate 4 refine ExF.gi ?_
 refine yH ?_;refine ye ?_;refine yl rfl ?_ ?_<;>intro hc1
 ·apply yf;apply yd;apply X.block;apply yb;iterate 5 refine ya ?_
  refine ye ?_;refine yl rfl ?_ ?_<;>intro hc2
  ·apply yb;(iterate 4 refine ya ?_);refine yj (zaB _) ?_;refine yg ?_;refine X.ret ?_;refine yh ?_;all_goals (unfold ze9; rw [k1, zla hc1 hc2 (by omega)]; rfl)
  apply yf;apply yc;refine zaj ?_
  refine yM ((n - 1, j + b)) (hJ := by
   exact ⟨by rw [k1, zlE hc1 hc2 (by omega)], by dsimp only; omega, by dsimp only; omega, by dsimp only; omega⟩) (hm := by dsimp only; omega)
 ·apply X.exit;apply yb;refine ye ?_;refine X.ret ?_;refine yh ?_;all_goals (unfold ze9; rw [k1, zk9 (by omega)]; rfl)
end Go.Rse
