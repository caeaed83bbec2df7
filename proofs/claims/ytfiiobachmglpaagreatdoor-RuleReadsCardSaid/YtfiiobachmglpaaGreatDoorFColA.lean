/-
  Walks: colored durations.
  Plain: the durations of the eight values under the sixteen mensurations, by going through all.
  Walks: colored durations by definition; pairs of minor color.
  Walks: pairs of minor color.
-/
import Derived.Test.YtfiiobachmglpaaGreatDoorFJRef1
import Derived.Test.YtfiiobachmglpaaGreatDoorFLogC
set_option linter.unusedSimpArgs false
set_option linter.unusedVariables false
namespace Go.Rse
open Go Go.Proofs
attribute [local irreducible] Pur yK yM Ex X Fn Imp LeV LeB FnO It yW
def Mn.pl (m : Mn) : Bool := decide (m.Max = 2) && decide (m.Mod = 2) && decide (m.Tem = 2) && decide (m.Pro = 2)
def durR (m : Mn) : Nat -> Int -> Tm
 | 0, v => if m.pl = true then mulV (zo m v) ⟨2, 3⟩ else zo m v
 | n + 1, v => if m.pl = true then mulV (zo m v) ⟨2, 3⟩ else if m.p v = 3 then mulV (zo m v) ⟨2, 3⟩ else mulV (durR m n (v + 1)) ⟨2, 1⟩
def durT (m : Mn) (v : Int) : Tm := durR m (5 - v).toNat v
theorem zkR {m : Mn} {v : Int} (h : m.pl = true) : durT m v = mulV (zo m v) ⟨2, 3⟩ := by
 unfold durT; cases (5 - v).toNat <;> simp [durR, h]
theorem zjn {m : Mn} {v : Int} (h : m.pl = false) (h5 : 5 <= v) : durT m v = zo m v := by
 unfold durT; rw [show (5 - v).toNat = 0 by omega]; simp [durR, h]
theorem zmr {m : Mn} {v : Int} (h : m.pl = false) (h5 : v < 5) (h3 : m.p v = 3) : durT m v = mulV (zo m v) ⟨2, 3⟩ := by
 unfold durT; rw [show (5 - v).toNat = (4 - v).toNat + 1 by omega]; simp [durR, h, h3]
theorem zms {m : Mn} {v : Int} (h : m.pl = false) (h5 : v < 5) (h3 : ¬ m.p v = 3) : durT m v = mulV (durT m (v + 1)) ⟨2, 1⟩ := by
 unfold durT; rw [show (5 - v).toNat = (5 - (v + 1)).toNat + 1 by omega]; simp [durR, h, h3]
theorem zcS {m : Mn} {v : Int} (hm : ckM m = 0) (h1 : 1 <= v) (h8 : v <= 8) : Fn Tryz.prog 38 [mnA m, iv v] (.tup [tmA (zo m v), iv 0]) := by
 have h := zjB m v
 have h0 : ckMV m v = 0 := by
  unfold ckM at hm; unfold ckMV;split at hm
  ·rw [if_pos (by assumption), if_pos ⟨h1, h8⟩]
  ·simp at hm
 rw [h0, if_pos rfl] at h; exact h
theorem zhH {m : Mn} {v : Int} (hm : ckM m = 0) (h1 : 1 <= v) (h8 : v <= 8) : Fn Tryz.prog 151 [mnA m, iv v] (.tup [iv (m.p v), iv 0]) := by
 have h := zdg m v
 have h0 : ckMV m v = 0 := by
  unfold ckM at hm; unfold ckMV;split at hm
  ·rw [if_pos (by assumption), if_pos ⟨h1, h8⟩]
  ·simp at hm
 rw [h0, if_pos rfl] at h; exact h
attribute [local irreducible] zo durT mulV
theorem zdy (t : Tm) : Fn Tryz.prog 173 [tmA t] (tmA (mulV t ⟨2, 3⟩)) := by
 refine Fn.go Tryz.func173 Tryz.ntmps173 (fun g w d => ?_);apply yb;refine yH ?_;refine yJ ?_;apply yn;iterate 2 refine ya ?_
 refine yr (zeX t ⟨2, 3⟩) ?_;iterate 3 refine ya ?_
 refine yJ ?_;refine yi ?_;refine ya ?_;apply yn;refine ya ?_;refine yi ?_;apply Ex.nil;refine X.ret ?_;refine RetQ.ret (.one (.cellA rfl rfl rfl rfl ty60 (LeV.eq ?_)));all_goals (rfl)
theorem zhI (m : Mn) (hm : ckM m = 0) (v : Int) (h1 : 1 <= v) (h8 : v <= 8) : FnO Tryz.prog 172 [iv v, .ptr 2000000 0 0 0, .ptr 2000001 0 0 0, .ptr 2000002 0 0 0] [(2000000, .box (mnE m) 23), (2000001, .box [.bool m.pl] 4), (2000002, .box [.fn 172 [.ptr 2000000 0 0 0, .ptr 2000001 0 0 0, .ptr 2000002 0 0 0]] 96)] [2000000, 2000001, 2000002] (tmA (durT m v)) [(2000000, .box (mnE m) 23), (2000001, .box [.bool m.pl] 4), (2000002, .box [.fn 172 [.ptr 2000000 0 0 0, .ptr 2000001 0 0 0, .ptr 2000002 0 0 0]] 96)] := by
 induction hn : (5 - v).toNat using Nat.strongRecOn generalizing v
 rename_i n ih;refine FnO.introX (ts := [(0, iv v), (1, .ptr 2000000 0 0 0), (2, .ptr 2000001 0 0 0), (3, .ptr 2000002 0 0 0)]) (rv := [.cell 5 60]) (n := 47) (cs := [.ptr 2000000 0 0 0, .ptr 2000001 0 0 0, .ptr 2000002 0 0 0]) (by kernel_rfl) Tryz.func172 rfl Tryz.ntmps172 rfl rfl (by simp) rfl rfl rfl rfl (fun g w d vs => ?_);apply yb;refine yJ ?_;apply yn;iterate 2 refine ya ?_
 refine yr (zcS hm h1 h8) ?_;iterate 3 refine ya ?_
 refine yJ ?_;refine yi ?_;refine ya ?_;apply yn;iterate 2 refine ya ?_
 refine yr (zhH hm h1 h8) ?_;refine y4 ?_;apply yd;apply X.block;apply yb;refine yh ?_;refine yk rfl ?_ ?_<;>intro hc1
 ·have hD := zkR (v := v) hc1;apply yb;refine ya ?_;refine yr (zdy _) ?_;refine yi ?_;apply Ex.nil;refine X.ret ?_;refine zlC.mk [(5, .ptr 5 0 0 0)] [(5, .box (tmE (mulV (zo m v) ⟨2, 3⟩)) 60)] (.inr rfl) (.one (.cellA rfl rfl rfl rfl ty60 (LeV.eq ?_)));all_goals (rw [hD])
 apply yb;refine yp ?_;refine yk rfl ?_ ?_<;>intro hc2
 ·have hD := zjn hc1 hc2;apply yb;refine ya ?_;refine yi ?_;apply Ex.nil;refine X.ret ?_;refine zlC.mk [(5, .ptr 5 0 0 0)] [(5, .box (tmE (zo m v)) 60)] (.inr rfl) (.one (.cellA rfl rfl rfl rfl ty60 (LeV.eq ?_)));all_goals (rw [hD])
 apply yb;refine yp ?_;refine yk rfl ?_ ?_<;>intro hc3
 ·have hD := zmr hc1 hc2 hc3;apply yb;refine ya ?_;refine yr (zdy _) ?_;refine yi ?_;apply Ex.nil;refine X.ret ?_;refine zlC.mk [(5, .ptr 5 0 0 0)] [(5, .box (tmE (mulV (zo m v) ⟨2, 3⟩)) 60)] (.inr rfl) (.one (.cellA rfl rfl rfl rfl ty60 (LeV.eq ?_)));all_goals (rw [hD])
 have hD := zms hc1 hc2 hc3;apply yf;apply yb;iterate 3 refine ya ?_
 refine zap [(2000000, 2000000), (2000001, 2000001), (2000002, 2000002)] (ih (5 - (v + 1)).toNat (by omega) (v + 1) (by omega) (by omega) rfl) ?_;refine ya ?_;refine yr (zeX (durT m (v + 1)) ⟨2, 1⟩) ?_;iterate 3 refine ya ?_
 refine yJ ?_;refine yi ?_;refine ya ?_;apply yn;refine ya ?_;refine yi ?_;apply Ex.nil;refine X.ret ?_;refine zlC.mk [(5, .ptr 5 0 0 0)] [(5, .box (tmE (mulV (durT m (v + 1)) ⟨2, 1⟩)) 60)] (.inr rfl) (.one (.cellA rfl rfl rfl rfl ty60 (LeV.eq ?_)));all_goals (rw [hD])
theorem zjo (m : Mn) (hm : ckM m = 0) (v : Int) (h1 : 1 <= v) (h8 : v <= 8) : Fn Tryz.prog 99 [mnA m, iv v] (tmA (durT m v)) := by
 have hpl : (decide (m.Max = 2) && decide (m.Mod = 2) && decide (m.Tem = 2) && decide (m.Pro = 2)) = m.pl := by unfold Mn.pl; rfl
 refine Fn.go Tryz.func99 Tryz.ntmps99 (fun g w d => ?_);apply yb;refine yH ?_;refine yJ ?_;apply yn;iterate 3 refine ya ?_
 refine ExF.at 3 ?_;refine yC ?_;iterate 3 refine ExF.gi ?_
 iterate 2 refine yC ?_
 iterate 3 refine ExF.gi ?_
 iterate 2 refine yC ?_
 iterate 3 refine ExF.gi ?_
 refine yA ?_;refine ya ?_;refine yJ ?_;refine yi ?_;apply yn;refine yJ ?_;apply yn;refine ya ?_;refine yi ?_;apply yn;iterate 2 refine ya ?_
 refine zap [(2000000, 2), (2000001, 5), (2000002, 6)] (zhI m hm v h1 h8) ?_;refine yi ?_;apply Ex.nil;refine X.ret ?_;refine RetQ.ret (.one (.cellA rfl rfl rfl rfl ty60 (LeV.eq ?_)));all_goals (rfl)
end Go.Rse
namespace Go.Rse
open Go Go.Proofs
def zjp (f : Mn -> Int -> Bool) : Bool := ([2, 3] : List Int).all fun a => ([2, 3] : List Int).all fun b => ([2, 3] : List Int).all fun c => ([2, 3] : List Int).all fun e => ([1, 2, 3, 4, 5, 6, 7, 8] : List Int).all fun v => f ⟨a, b, c, e⟩ v
theorem zfR {f : Mn -> Int -> Bool} (h : zjp f = true) {m : Mn} {v : Int} (hm : ckM m = 0) (h1 : 1 <= v) (h8 : v <= 8) : f m v = true := by
 have ho : m.Ok := by
  unfold ckM at hm; split at hm
  ·assumption
  ·simp at hm
 obtain ⟨a, b, c, e⟩ := m;have hv : v ∈ ([1, 2, 3, 4, 5, 6, 7, 8] : List Int) := by simp; omega
 have h2 : ∀ x : Int, two3 x -> x ∈ ([2, 3] : List Int) := fun x hx => by simpa [two3] using hx
 unfold zjp at h;exact List.all_eq_true.1 (List.all_eq_true.1 (List.all_eq_true.1 (List.all_eq_true.1 (List.all_eq_true.1 h a (h2 _ ho.1)) b (h2 _ ho.2.1)) c (h2 _ ho.2.2.1)) e (h2 _ ho.2.2.2)) v hv
def zpv (m : Mn) (v : Int) : Bool :=
 decide (mulV (zo m v) ⟨2, 3⟩ = tmkT ((zo m v).N * 2) ((zo m v).D * 3)) && decide (mulV (durT m v) ⟨2, 1⟩ = tmkT ((durT m v).N * 2) ((durT m v).D * 1)) &&
 decide (ckT (zo m v) = 0) && decide (ckT (durT m v) = 0) && decide ((zo m v).N <= 81) && decide ((zo m v).D <= 8) && decide ((durT m v).N <= 81) && decide ((durT m v).D <= 24) && decide (1 <= (zo m v).N) && decide (1 <= (durT m v).N)
theorem zl2 : zjp zpv = true := by kernel_rfl
theorem zee {m : Mn} {v : Int} (hm : ckM m = 0) (h1 : 1 <= v) (h8 : v <= 8) : mulV (zo m v) ⟨2, 3⟩ = tmkT ((zo m v).N * 2) ((zo m v).D * 3) /\ mulV (durT m v) ⟨2, 1⟩ = tmkT ((durT m v).N * 2) ((durT m v).D * 1) ∧
 ckT (zo m v) = 0 /\ ckT (durT m v) = 0 /\ (zo m v).N <= 81 /\ (zo m v).D <= 8 /\ (durT m v).N <= 81 /\ (durT m v).D <= 24 /\ 1 <= (zo m v).N /\ 1 <= (durT m v).N := by
 have h := zfR zl2 hm h1 h8;unfold zpv at h;simp only [Bool.and_eq_true, decide_eq_true_eq] at h;obtain ⟨⟨⟨⟨⟨⟨⟨⟨⟨a, b⟩, c⟩, d⟩, e⟩, f⟩, g⟩, i⟩, j⟩, k⟩ := h;exact ⟨a, b, c, d, e, f, g, i, j, k⟩
theorem zjq (m : Mn) (hm : ckM m = 0) : ((perfL m).length : Int) = 0 ↔ m.pl = true := by
 have h : ∀ v : Int, 1 <= v -> m.p v = 2 \/ m.p v = 3 := zgE hm;have a := h 1 (by omega); have b := h 2 (by omega); have c := h 3 (by omega); have e := h 4 (by omega);have e1 : m.p 1 = m.Max := rfl;have e2 : m.p 2 = m.Mod := rfl;have e3 : m.p 3 = m.Tem := rfl;have e4 : m.p 4 = m.Pro := rfl;unfold perfL Mn.pl;rw [e1] at a; rw [e2] at b; rw [e3] at c; rw [e4] at e;simp only [List.filter_cons, e1, e2, e3, e4, List.filter_nil];rcases a with a | a <;> rcases b with b | b <;> rcases c with c | c <;> rcases e with e | e <;> simp [a, b, c, e]
end Go.Rse
namespace Go.Rse
open Go Go.Proofs
attribute [local irreducible] Pur yK yM Ex X Fn Imp LeV LeB FnO It yW
theorem zqb {m : Mn} {v : Int} (hm : ckM m = 0) (h1 : 1 <= v) (h8 : v <= 8) : ckMV m v = 0 := by
 unfold ckM at hm; unfold ckMV;split at hm
 ·rw [if_pos (by assumption), if_pos ⟨h1, h8⟩]
 ·simp at hm
theorem zaG {m : Mn} {v : Int} (hm : ckM m = 0) (h1 : 1 <= v) (h8 : v <= 8) : Fn Tryz.prog 206 [mnA m, iv v] (.tup [tmA (zo m v), iv 0]) := by
 have h := zeU m v;rw [zqb hm h1 h8, if_pos rfl] at h; exact h
theorem zdn {m : Mn} (hm : ckM m = 0) : Fn Tryz.prog 74 [mnA m] (.tup [yg (perfL m), iv 0]) := by
 have h := zbA m;rw [hm, if_pos rfl] at h; exact h
theorem zjr {m : Mn} (hm : ckM m = 0) (h : ¬ ((perfL m).length : Int) = 0) : m.pl = false := by
 cases hp : m.pl with
 | false => rfl
 | true => exact absurd ((zjq m hm).2 hp) h
theorem zqc {m : Mn} {v : Int} (hm : ckM m = 0) (h1 : 1 <= v) (h8 : v <= 8) (h : ((perfL m).length : Int) = 0 \/ (v < 5 /\ m.p v = 3)) : durT m v = tmkT ((zo m v).N * 2) ((zo m v).D * 3) := by
 rw [← (zee hm h1 h8).1];cases hp : m.pl with
 | true => exact zkR hp
 | false =>
  rcases h with h | h
  ·rw [(zjq m hm).1 h] at hp; cases hp
  ·exact zmr hp h.1 h.2
theorem zqd {m : Mn} {v : Int} (hm : ckM m = 0) (h1 : 1 <= v) (hp : m.pl = false) (h5 : v < 5) (h3 : ¬ m.p v = 3) : durT m v = tmkT ((durT m (v + 1)).N * 2) ((durT m (v + 1)).D * 1) := by
 rw [← (zee hm (show 1 <= v + 1 by omega) (by omega)).2.1];exact zms hp h5 h3
def clr (s : Sg) : Bool := decide (s.Kind = 1) && s.Color
def zcl (l : List Sg) (by' : Int) : Nat -> Int -> Option Sg
 | 0, _ => none
 | n + 1, i => if 0 <= i /\ i < (l.length : Int) then (if (l.getD i.toNat default).Kind = 3 then zcl l by' n (i + by') else some (l.getD i.toNat default)) else none
def zcm (l : List Sg) (by' i : Int) : Option Sg := zcl l by' (l.length + 2) i
theorem zhX {l : List Sg} {by' : Int} {n : Nat} {i : Int} (h : ¬ (0 <= i /\ i < (l.length : Int))) : zcl l by' n i = none := by
 cases n with
 | zero => rfl
 | succ n => unfold zcl; rw [if_neg h]
theorem zhY {l : List Sg} {by' : Int} {n : Nat} {i : Int} (h : 0 <= i /\ i < (l.length : Int)) (h3 : ¬ (l.getD i.toNat default).Kind = 3) (hn : 0 < n) : zcl l by' n i = some (l.getD i.toNat default) := by
 cases n with
 | zero => omega
 | succ n => unfold zcl; rw [if_pos h, if_neg h3]
theorem zjs {l : List Sg} {by' : Int} {n : Nat} {i : Int} (h : 0 <= i /\ i < (l.length : Int)) (h3 : (l.getD i.toNat default).Kind = 3) (hn : 0 < n) : zcl l by' n i = zcl l by' (n - 1) (i + by') := by
 cases n with
 | zero => omega
 | succ n => conv => lhs; unfold zcl
             rw [if_pos h, if_pos h3]; rfl
def sgZ0 : Sg := ⟨0, 0, 0, 0, false, 0, false, false, ⟨0, 0, 0, 0⟩, false, 0, 0, 0, 0⟩
def frB : Option Sg -> Bool
 | some s => !clr s
 | none => true
def zkS : Option Sg -> Sg
 | some s => s
 | none => sgZ0
def zai (l : List Sg) (i : Int) : Bool := decide (i + 1 < (l.length : Int)) && clr (l.getD i.toNat default) && decide ((l.getD i.toNat default).Value = 4) && clr (l.getD (i + 1).toNat default) && decide ((l.getD (i + 1).toNat default).Value = 5) &&
 !(decide (i + 2 < (l.length : Int)) && decide ((l.getD (i + 2).toNat default).Kind = 3)) && frB (zcm l (-1) (i - 1)) && frB (zcm l 1 (i + 2))
attribute [local irreducible] zo durT mulV tmkT perfL zcl
theorem zbH (t : Tm) (n q : Int) (hp : 0 <= t.N * n /\ t.N * n <= 9223372036854775807) (hq : 0 <= t.D * q /\ t.D * q <= 9223372036854775807) : Fn Tryz.prog 264 [tmA t, iv n, iv q] (tmA (tmkT (t.N * n) (t.D * q))) := by
 refine Fn.go Tryz.func264 Tryz.ntmps264 (fun g w d => ?_);apply yb;refine yH ?_;refine yJ ?_;apply yn;iterate 8 refine ya ?_
 refine yr (zeT (t.N * n) (t.D * q) (by omega) (by omega)) ?_;iterate 3 refine ya ?_
 refine yJ ?_;refine yi ?_;refine ya ?_;apply yn;refine ya ?_;refine yi ?_;apply Ex.nil;refine X.ret ?_;refine RetQ.ret (.one (.cellA rfl rfl rfl rfl ty60 (LeV.eq ?_)));all_goals (rfl)
theorem ze9 (m : Mn) (hm : ckM m = 0) (v : Int) (h1 : 1 <= v) (h8 : v <= 8) : Fn Tryz.prog 224 [mnA m, iv v] (tmA (durT m v)) := by
 induction hn : (5 - v).toNat using Nat.strongRecOn generalizing v
 rename_i n ih;have hf := zee hm h1 h8;have hb1 := z8 hf.2.2.1;refine Fn.go Tryz.func224 Tryz.ntmps224 (fun g w d => ?_);apply yb;refine yH ?_;refine yJ ?_;apply yn;iterate 2 refine ya ?_
 refine yr (zaG hm h1 h8) ?_;iterate 3 refine ya ?_
 refine yJ ?_;refine yi ?_;refine ya ?_;apply yn;refine ya ?_;refine yr (zdn hm) ?_;refine y4 ?_;apply yd;apply X.block;apply yb;iterate 3 refine ya ?_
 refine ExF.at 3 ?_;refine yC ?_;iterate 5 refine ExF.gi ?_
 refine ExF.cg (zz m v) ?_;iterate 2 refine ExF.gi ?_
 refine yA ?_;refine yh ?_;refine yk rfl ?_ ?_<;>intro hc1
 ·have hD := zqc hm h1 h8 hc1;apply yb;refine ya ?_;refine yr (zbH (zo m v) 2 3 (by omega) (by omega)) ?_;refine yi ?_;apply Ex.nil;refine X.ret ?_;refine RetQ.ret (.one (.cellA rfl rfl rfl rfl ty60 (LeV.eq ?_)));all_goals (rw [hD]; rfl)
 apply yb;refine yp ?_;refine yk rfl ?_ ?_<;>intro hc2
 ·have hD := zjn (zjr hm hc1.1) hc2;apply yb;refine ya ?_;refine yi ?_;apply Ex.nil;refine X.ret ?_;refine RetQ.ret (.one (.cellA rfl rfl rfl rfl ty60 (LeV.eq ?_)));all_goals (rw [hD]; rfl)
 have hD := zqd hm h1 (zjr hm hc1.1) hc2 (by omega);have hf2 := zee hm (show 1 <= v + 1 by omega) (by omega);have hb2 := z8 hf2.2.2.2.1;apply yf;apply yb;iterate 3 refine ya ?_
 refine yr (ih (5 - (v + 1)).toNat (by omega) (v + 1) (by omega) (by omega) rfl) ?_;refine yr (zbH (durT m (v + 1)) 2 1 (by omega) (by omega)) ?_;refine yi ?_;apply Ex.nil;refine X.ret ?_;refine RetQ.ret (.one (.cellA rfl rfl rfl rfl ty60 (LeV.eq ?_)));all_goals (rw [hD]; rfl)
theorem zaO (s : Sg) : Fn Tryz.prog 154 [sgA s] (.bool (clr s)) := by
 refine Fn.go Tryz.func154 Tryz.ntmps154 (fun g w d => ?_);apply yb;refine yH ?_;refine ya ?_;apply yn;iterate 3 refine ya ?_
 refine ExF.at 3 ?_;refine yC ?_;iterate 2 refine ExF.gi ?_
 refine yA ?_;refine yh ?_;refine X.ret ?_;refine ym ?_;all_goals (rfl)
theorem zB (s : Sg) : Fn Tryz.prog 223 [sgA s] (.bool (clr s)) := by
 refine Fn.go Tryz.func223 Tryz.ntmps223 (fun g w d => ?_);apply yb;refine yH ?_;refine ya ?_;apply yn;iterate 3 refine ya ?_
 refine ExF.at 3 ?_;refine yC ?_;iterate 2 refine ExF.gi ?_
 refine yA ?_;refine yh ?_;refine X.ret ?_;refine ym ?_;all_goals (rfl)
theorem zfa (l : List Sg) (hl : l.length <= 4000000000) (i b : Int) (hb : b = 1 \/ b = -1) (h0 : -2 <= i) (h1 : i <= (l.length : Int) + 2) (h2 : b = -1 -> i <= (l.length : Int) + 1) : Fn Tryz.prog 230 [sgsA l, iv i, iv b] (.bool (frB (zcm l b i))) := by
 refine Fn.go Tryz.func230 Tryz.ntmps230 (fun g w d => ?_);apply yb;refine ye ?_;apply yd;apply X.block
 refine y9 (ι := Nat × Int) (fun (p : Nat × Int) => [(0, sgsA l), (1, iv p.2), (2, iv b)]) (fun (p : Nat × Int) => []) (fun (p : Nat × Int) => zcl l b (l.length + 2) i = zcl l b p.1 p.2 /\ ((b = 1 /\ (l.length : Int) - p.2 <= (p.1 : Int)) \/ (b = -1 /\ p.2 + 1 <= (p.1 : Int))) /\ -3 <= p.2 /\ p.2 <= (l.length : Int) + 3) (fun (p : Nat × Int) => p.1) (l.length + 2, i) (fun p hk => ?_) (hJ := by
  exact ⟨rfl, by dsimp only; omega, by dsimp only; omega, by dsimp only; omega⟩)
 obtain ⟨n, j⟩ := p;obtain ⟨k1, k2, k3, k4⟩ := hk;dsimp only at *
 apply yd;apply yb;iterate 2 refine ya ?_
 refine ExF.at 2 ?_;refine yC ?_;iterate 4 refine ExF.gi ?_
 refine yA ?_;refine ye ?_;refine yk rfl ?_ ?_<;>intro hc1
 ·apply yf;apply yd;apply X.block;apply yb;iterate 5 refine ya ?_
  refine ye ?_;refine yk rfl ?_ ?_<;>intro hc2
  ·apply yb;(iterate 4 refine ya ?_);refine yr (zaO _) ?_;refine yh ?_;refine X.ret ?_;refine ym ?_;all_goals (unfold zcm; rw [k1, zhY hc1 hc2 (by omega)]; rfl)
  apply yf;apply yc;refine yX ?_
  refine yL ((n - 1, j + b)) (hJ := by
   exact ⟨by rw [k1, zjs hc1 hc2 (by omega)], by dsimp only; omega, by dsimp only; omega, by dsimp only; omega⟩) (hm := by dsimp only; omega)
 ·apply X.exit;apply yb;refine ye ?_;refine X.ret ?_;refine ym ?_;all_goals (unfold zcm; rw [k1, zhX (by omega)]; rfl)
theorem zbY (l : List Sg) (hl : l.length <= 4000000000) (i b : Int) (hb : b = 1 \/ b = -1) (h0 : -2 <= i) (h1 : i <= (l.length : Int) + 2) (h2 : b = -1 -> i <= (l.length : Int) + 1) : Fn Tryz.prog 281 [sgsA l, iv i, iv b] (.tup [sgA (zkS (zcm l b i)), .bool (zcm l b i).isSome]) := by
 refine Fn.go Tryz.func281 Tryz.ntmps281 (fun g w d => ?_);apply yb;refine yJ ?_;refine ye ?_;apply yd;apply X.block
 refine y9 (ι := Nat × Int) (fun (p : Nat × Int) => [(0, sgsA l), (1, iv p.2), (2, iv b), (6, .ptr 6 0 0 0)]) (fun (p : Nat × Int) => [(6, .box (sgE sgZ0) 67)]) (fun (p : Nat × Int) => zcl l b (l.length + 2) i = zcl l b p.1 p.2 /\ ((b = 1 /\ (l.length : Int) - p.2 <= (p.1 : Int)) \/ (b = -1 /\ p.2 + 1 <= (p.1 : Int))) /\ -3 <= p.2 /\ p.2 <= (l.length : Int) + 3) (fun (p : Nat × Int) => p.1) (l.length + 2, i) (fun p hk => ?_) (hJ := by
  exact ⟨rfl, by dsimp only; omega, by dsimp only; omega, by dsimp only; omega⟩)
 obtain ⟨n, j⟩ := p;obtain ⟨k1, k2, k3, k4⟩ := hk;dsimp only at *
 apply yd;apply yb;iterate 2 refine ya ?_
 refine ExF.at 2 ?_;refine yC ?_;iterate 4 refine ExF.gi ?_
 refine yA ?_;refine ye ?_;refine yk rfl ?_ ?_<;>intro hc1
 ·apply yf;apply X.block;apply yd;apply yb;iterate 5 refine ya ?_
  refine ye ?_;refine yk rfl ?_ ?_<;>intro hc2
  ·have hF : zcm l b i = some (l.getD j.toNat default) := by unfold zcm; rw [k1, zhY hc1 hc2 (by omega)]
   apply yb;(iterate 4 refine ya ?_);refine yi ?_;refine ye ?_;refine X.ret ?_;refine yF ty67 ?_ ?_;all_goals (rw [hF]; rfl)
  apply yf;apply yc;refine yX ?_
  refine yL ((n - 1, j + b)) (hJ := by
   exact ⟨by rw [k1, zjs hc1 hc2 (by omega)], by dsimp only; omega, by dsimp only; omega, by dsimp only; omega⟩) (hm := by dsimp only; omega)
 ·have hF : zcm l b i = none := by unfold zcm; rw [k1, zhX (by omega)]
  apply X.exit;apply yb;refine ya ?_;refine yi ?_;refine ye ?_;refine X.ret ?_;refine yF ty67 ?_ ?_;all_goals (rw [hF]; rfl)
end Go.Rse
namespace Go.Rse
open Go Go.Proofs
attribute [local irreducible] Pur yK yM Ex X Fn Imp LeV LeB FnO It yW
theorem zmt (o : Option Sg) : frB o = !(o.isSome && clr (zkS o)) := by cases o <;> simp [frB, zkS]
theorem zjt {l : List Sg} {i : Int} (h : (((((l.length : Int) <= i + 1 \/ clr (l.getD i.toNat default) = false) \/ ¬ (l.getD i.toNat default).Value = 4) \/ clr (l.getD (i + 1).toNat default) = false) \/ ¬ (l.getD (i + 1).toNat default).Value = 5)) : zai l i = false := by
 unfold zai;rcases h with (((h | h) | h) | h) | h
 ·rw [decide_eq_false (show ¬ i + 1 < (l.length : Int) by omega)]; simp
 ·rw [h]; simp
 ·rw [decide_eq_false h]; simp
 ·rw [h]; simp
 ·rw [decide_eq_false h]; simp
theorem zl3 {l : List Sg} {i : Int} (h : i + 2 < (l.length : Int) /\ (l.getD (i + 2).toNat default).Kind = 3) : zai l i = false := by
 unfold zai; rw [decide_eq_true h.1, decide_eq_true h.2]; simp
theorem zhZ {l : List Sg} {i : Int} (h : (((i + 1 < (l.length : Int) /\ clr (l.getD i.toNat default) = true) /\ (l.getD i.toNat default).Value = 4) /\ clr (l.getD (i + 1).toNat default) = true) /\ (l.getD (i + 1).toNat default).Value = 5) : zai l i = (!(decide (i + 2 < (l.length : Int)) && decide ((l.getD (i + 2).toNat default).Kind = 3)) && frB (zcm l (-1) (i - 1)) && frB (zcm l 1 (i + 2))) := by
 unfold zai;rw [decide_eq_true h.1.1.1.1, h.1.1.1.2, decide_eq_true h.1.1.2, h.1.2, decide_eq_true h.2]; rfl
attribute [local irreducible] zai zcm frB zkS clr
theorem zfb (l : List Sg) (hl : l.length <= 4000000000) (i : Int) (h0 : 0 <= i) (h1 : i < (l.length : Int)) : Fn Tryz.prog 170 [sgsA l, iv i] (.bool (zai l i)) := by
 refine Fn.go Tryz.func170 Tryz.ntmps170 (fun g w d => ?_);apply yb;refine ye ?_;apply yd;apply yb;iterate 5 refine ya ?_
 refine ExF.at 5 ?_;refine yC ?_;iterate 4 refine ExF.gi ?_
 refine ExF.cg (zaO _) ?_;refine ExF.gi ?_;iterate 2 refine yC ?_
 iterate 6 refine ExF.gi ?_
 iterate 2 refine yC ?_
 iterate 5 refine ExF.gi ?_
 refine ExF.cg (zaO _) ?_;refine ExF.gi ?_;iterate 2 refine yC ?_
 iterate 7 refine ExF.gi ?_
 refine yA ?_;refine ye ?_;refine yk rfl ?_ ?_<;>intro hc1
 ·apply yb;refine ye ?_;refine X.ret ?_;refine ym ?_;all_goals (rw [zjt hc1])
 apply yf;apply yb;iterate 5 refine ya ?_
 refine ExF.at 5 ?_;refine yC ?_;iterate 7 refine ExF.gi ?_
 refine yA ?_;iterate 2 refine ya ?_
 apply yn;iterate 2 refine ya ?_
 refine ExF.at 2 ?_;refine yC ?_;iterate 3 refine ExF.gi ?_
 refine ExF.cg (zfa l hl (i - 1) (-1) (.inr rfl) (by omega) (by omega) (by omega)) ?_;iterate 2 refine yC ?_
 iterate 3 refine ExF.gi ?_
 refine ExF.cg (zfa l hl (i + 2) 1 (.inl rfl) (by omega) (by omega) (by omega)) ?_;refine yA ?_;refine yh ?_;refine X.ret ?_;refine ym ?_;all_goals (rw [zhZ hc1])
theorem zeO (m : Mn) (l : List Sg) (hl : l.length <= 4000000000) (i : Int) (h0 : 0 <= i) (h1 : i < (l.length : Int)) : Fn Tryz.prog 263 [mnA m, sgsA l, iv i] (.bool (decide (m.p 4 = 2) && zai l i)) := by
 refine Fn.go Tryz.func263 Tryz.ntmps263 (fun g w d => ?_);apply yb;refine yH ?_;refine ye ?_;apply yd;apply yb;iterate 5 refine ya ?_
 refine ExF.at 5 ?_;refine yC ?_;iterate 4 refine ExF.gi ?_
 refine ExF.cg (zB _) ?_;refine ExF.gi ?_;iterate 2 refine yC ?_
 iterate 6 refine ExF.gi ?_
 iterate 2 refine yC ?_
 iterate 5 refine ExF.gi ?_
 refine ExF.cg (zB _) ?_;refine ExF.gi ?_;iterate 2 refine yC ?_
 iterate 7 refine ExF.gi ?_
 iterate 2 refine yC ?_
 refine ExF.gi ?_;refine ExF.cg (zz m 4) ?_;refine ExF.gi ?_;refine yA ?_;refine ye ?_;refine yk rfl ?_ ?_<;>intro hc1
 ·have hP : (decide (m.p 4 = 2) && zai l i) = false := by
   rcases hc1 with h | h
   ·rw [zjt h]; simp
   ·rw [decide_eq_false h]; rfl
  apply yb;refine ye ?_;refine X.ret ?_;refine ym ?_;all_goals (rw [hP])
 apply yf;apply yd;apply yb;iterate 5 refine ya ?_
 refine ExF.at 5 ?_;refine yC ?_;iterate 7 refine ExF.gi ?_
 refine yA ?_;refine ye ?_;refine yk rfl ?_ ?_<;>intro hc2
 ·have hP := zl3 hc2;apply yb;refine ye ?_;refine X.ret ?_;refine ym ?_;all_goals (rw [hP]; simp)
 have hP := zhZ hc1.1
 have hQ : (decide (i + 2 < (l.length : Int)) && decide ((l.getD (i + 2).toNat default).Kind = 3)) = false := by
  rcases hc2 with h | h
  ·rw [decide_eq_false (show ¬ i + 2 < (l.length : Int) by omega)]; rfl
  ·rw [decide_eq_false h]; simp
 rw [hQ, zmt, zmt] at hP;apply yf;apply yb;iterate 3 refine ya ?_
 refine yr (zbY l hl (i - 1) (-1) (.inr rfl) (by omega) (by omega) (by omega)) ?_;iterate 3 refine ya ?_
 refine yJ ?_;refine yi ?_;refine ya ?_;apply yn;iterate 3 refine ya ?_
 refine yr (zbY l hl (i + 2) 1 (.inl rfl) (by omega) (by omega) (by omega)) ?_;iterate 3 refine ya ?_
 refine yJ ?_;refine yi ?_;refine ya ?_;apply yn;refine ya ?_;refine ExF.at 1 ?_;refine yC ?_;refine ExF.gi ?_;refine ExF.cg (zB _) ?_;iterate 3 refine yC ?_
 iterate 3 refine ExF.gi ?_
 refine ExF.cg (zB _) ?_;iterate 2 refine ExF.gi ?_
 refine yA ?_;refine yh ?_;refine X.ret ?_;refine ym ?_;all_goals (rw [hP, decide_eq_true hc1.2]; rfl)
end Go.Rse
