/-
  Walks: colored durations.
-/
import Derived.Test.YtggdlojopkoegaaGreatDoorBJRef1
import Derived.Test.YtggdlojopkoegaaGreatDoorBLogC
set_option linter.unusedSimpArgs false
set_option linter.unusedVariables false
namespace Go.Rse
open Go Go.Proofs
attribute [local irreducible] Pur yD yF Ex X Fn Imp LeV LeB FnO It yH
def Mn.pl (m : Mn) : Bool := decide (m.Max = 2) && decide (m.Mod = 2) && decide (m.Tem = 2) && decide (m.Pro = 2)
def durR (m : Mn) : Nat -> Int -> Tm
 | 0, v => if m.pl = true then mulV (yx m v) ⟨2, 3⟩ else yx m v
 | n + 1, v => if m.pl = true then mulV (yx m v) ⟨2, 3⟩ else if m.p v = 3 then mulV (yx m v) ⟨2, 3⟩ else mulV (durR m n (v + 1)) ⟨2, 1⟩
def durT (m : Mn) (v : Int) : Tm := durR m (5 - v).toNat v
theorem zkj {m : Mn} {v : Int} (h : m.pl = true) : durT m v = mulV (yx m v) ⟨2, 3⟩ := by
 unfold durT; cases (5 - v).toNat <;> simp [durR, h]
theorem ziS {m : Mn} {v : Int} (h : m.pl = false) (h5 : 5 <= v) : durT m v = yx m v := by
 unfold durT; rw [show (5 - v).toNat = 0 by omega]; simp [durR, h]
theorem zlW {m : Mn} {v : Int} (h : m.pl = false) (h5 : v < 5) (h3 : m.p v = 3) : durT m v = mulV (yx m v) ⟨2, 3⟩ := by
 unfold durT; rw [show (5 - v).toNat = (4 - v).toNat + 1 by omega]; simp [durR, h, h3]
theorem zlX {m : Mn} {v : Int} (h : m.pl = false) (h5 : v < 5) (h3 : ¬ m.p v = 3) : durT m v = mulV (durT m (v + 1)) ⟨2, 1⟩ := by
 unfold durT; rw [show (5 - v).toNat = (5 - (v + 1)).toNat + 1 by omega]; simp [durR, h, h3]
theorem zam {m : Mn} {v : Int} (hm : ckM m = 0) (h1 : 1 <= v) (h8 : v <= 8) : Fn Tryz.prog 163 [mnA m, iv v] (.tup [tmA (yx m v), iv 0]) := by
 have h := zjc m v
 have h0 : ckMV m v = 0 := by
  unfold ckM at hm; unfold ckMV;split at hm
  ·rw [if_pos (by assumption), if_pos ⟨h1, h8⟩]
  ·simp at hm
 rw [h0, if_pos rfl] at h; exact h
theorem zdS {m : Mn} {v : Int} (hm : ckM m = 0) (h1 : 1 <= v) (h8 : v <= 8) : Fn Tryz.prog 193 [mnA m, iv v] (.tup [iv (m.p v), iv 0]) := by
 have h := zcD m v
 have h0 : ckMV m v = 0 := by
  unfold ckM at hm; unfold ckMV;split at hm
  ·rw [if_pos (by assumption), if_pos ⟨h1, h8⟩]
  ·simp at hm
 rw [h0, if_pos rfl] at h; exact h
attribute [local irreducible] yx durT mulV
theorem zcX (t : Tm) : Fn Tryz.prog 308 [tmA t] (tmA (mulV t ⟨2, 3⟩)) := by
 refine Fn.go Tryz.func308 Tryz.ntmps308 (fun g w d => ?_);apply yb;refine yA ?_;refine yC ?_;apply yk;iterate 2 refine ya ?_
 refine ym (zcM t ⟨2, 3⟩) ?_;iterate 3 refine ya ?_
 refine yC ?_;refine Ex.mo ?_;refine ya ?_;apply yk;refine ya ?_;refine Ex.mo ?_;apply Ex.nil;refine X.ret ?_;refine RetQ.ret (.one (.cellA rfl rfl rfl rfl ty40 (LeV.eq ?_)));all_goals (rfl)
theorem zg9 (m : Mn) (hm : ckM m = 0) (v : Int) (h1 : 1 <= v) (h8 : v <= 8) : FnO Tryz.prog 307 [iv v, .ptr 2000000 0 0 0, .ptr 2000001 0 0 0, .ptr 2000002 0 0 0] [(2000000, .box (mnE m) 23), (2000001, .box [.bool m.pl] 4), (2000002, .box [.fn 307 [.ptr 2000000 0 0 0, .ptr 2000001 0 0 0, .ptr 2000002 0 0 0]] 333)] [2000000, 2000001, 2000002] (tmA (durT m v)) [(2000000, .box (mnE m) 23), (2000001, .box [.bool m.pl] 4), (2000002, .box [.fn 307 [.ptr 2000000 0 0 0, .ptr 2000001 0 0 0, .ptr 2000002 0 0 0]] 333)] := by
 induction hn : (5 - v).toNat using Nat.strongRecOn generalizing v
 rename_i n ih;refine FnO.introX (ts := [(0, iv v), (1, .ptr 2000000 0 0 0), (2, .ptr 2000001 0 0 0), (3, .ptr 2000002 0 0 0)]) (rv := [.cell 5 40]) (n := 47) (cs := [.ptr 2000000 0 0 0, .ptr 2000001 0 0 0, .ptr 2000002 0 0 0]) (by kernel_rfl) Tryz.func307 rfl Tryz.ntmps307 rfl rfl (by simp) rfl rfl rfl rfl (fun g w d vs => ?_);apply yb;refine yC ?_;apply yk;iterate 2 refine ya ?_
 refine ym (zam hm h1 h8) ?_;iterate 3 refine ya ?_
 refine yC ?_;refine Ex.mo ?_;refine ya ?_;apply yk;iterate 2 refine ya ?_
 refine ym (zdS hm h1 h8) ?_;refine zy ?_;apply ye;apply X.block;apply yb;refine yg ?_;refine yj rfl ?_ ?_<;>intro hc1
 ·have hD := zkj (v := v) hc1;apply yb;refine ya ?_;refine ym (zcX _) ?_;refine Ex.mo ?_;apply Ex.nil;refine X.ret ?_;refine zhY.mk [(5, .ptr 5 0 0 0)] [(5, .box (tmE (mulV (yx m v) ⟨2, 3⟩)) 40)] (.inr rfl) (.one (.cellA rfl rfl rfl rfl ty40 (LeV.eq ?_)));all_goals (rw [hD])
 apply yb;refine yo ?_;refine yj rfl ?_ ?_<;>intro hc2
 ·have hD := ziS hc1 hc2;apply yb;refine ya ?_;refine Ex.mo ?_;apply Ex.nil;refine X.ret ?_;refine zhY.mk [(5, .ptr 5 0 0 0)] [(5, .box (tmE (yx m v)) 40)] (.inr rfl) (.one (.cellA rfl rfl rfl rfl ty40 (LeV.eq ?_)));all_goals (rw [hD])
 apply yb;refine yo ?_;refine yj rfl ?_ ?_<;>intro hc3
 ·have hD := zlW hc1 hc2 hc3;apply yb;refine ya ?_;refine ym (zcX _) ?_;refine Ex.mo ?_;apply Ex.nil;refine X.ret ?_;refine zhY.mk [(5, .ptr 5 0 0 0)] [(5, .box (tmE (mulV (yx m v) ⟨2, 3⟩)) 40)] (.inr rfl) (.one (.cellA rfl rfl rfl rfl ty40 (LeV.eq ?_)));all_goals (rw [hD])
 have hD := zlX hc1 hc2 hc3;apply yf;apply yb;iterate 3 refine ya ?_
 refine zaO [(2000000, 2000000), (2000001, 2000001), (2000002, 2000002)] (ih (5 - (v + 1)).toNat (by omega) (v + 1) (by omega) (by omega) rfl) ?_;refine ya ?_;refine ym (zcM (durT m (v + 1)) ⟨2, 1⟩) ?_;iterate 3 refine ya ?_
 refine yC ?_;refine Ex.mo ?_;refine ya ?_;apply yk;refine ya ?_;refine Ex.mo ?_;apply Ex.nil;refine X.ret ?_;refine zhY.mk [(5, .ptr 5 0 0 0)] [(5, .box (tmE (mulV (durT m (v + 1)) ⟨2, 1⟩)) 40)] (.inr rfl) (.one (.cellA rfl rfl rfl rfl ty40 (LeV.eq ?_)));all_goals (rw [hD])
theorem zfl (m : Mn) (hm : ckM m = 0) (v : Int) (h1 : 1 <= v) (h8 : v <= 8) : Fn Tryz.prog 268 [mnA m, iv v] (tmA (durT m v)) := by
 have hpl : (decide (m.Max = 2) && decide (m.Mod = 2) && decide (m.Tem = 2) && decide (m.Pro = 2)) = m.pl := by unfold Mn.pl; rfl
 refine Fn.go Tryz.func268 Tryz.ntmps268 (fun g w d => ?_);apply yb;refine yA ?_;refine yC ?_;apply yk;iterate 3 refine ya ?_
 refine ExF.at 3 ?_;refine yG ?_;iterate 3 refine ExF.gi ?_
 iterate 2 refine yG ?_
 iterate 3 refine ExF.gi ?_
 iterate 2 refine yG ?_
 iterate 3 refine ExF.gi ?_
 refine yE ?_;refine ya ?_;refine yC ?_;refine Ex.mo ?_;apply yk;refine yC ?_;apply yk;refine ya ?_;refine Ex.mo ?_;apply yk;iterate 2 refine ya ?_
 refine zaO [(2000000, 2), (2000001, 5), (2000002, 6)] (zg9 m hm v h1 h8) ?_;refine Ex.mo ?_;apply Ex.nil;refine X.ret ?_;refine RetQ.ret (.one (.cellA rfl rfl rfl rfl ty40 (LeV.eq ?_)));all_goals (rfl)
theorem ziT (m : Mn) (v : Int) : Fn Tryz.prog 282 [mnA m, iv v] (.tup [tmA (if ckMV m v = 0 then durT m v else tmZ), iv (ckMV m v)]) := by
 refine Fn.go Tryz.func282 Tryz.ntmps282 (fun g w d => ?_);apply yb;refine yA ?_;refine yC ?_;refine yd ?_;apply ye;apply yb;refine ya ?_;refine ym (zao m) ?_;refine ya ?_;apply yk;refine yg ?_;refine yj rfl ?_ ?_<;>intro hc1
 ·have hE : ckMV m v = ckM m := by unfold ckMV ckM at *; split <;> simp_all
  apply yb;iterate 2 refine ya ?_
  refine Ex.mo ?_;refine yd ?_;refine X.ret ?_;refine yL ty40 ?_ ?_;all_goals (first | (rw [hE]; done) | (rw [hE, if_pos rfl]; done) | (rw [hE, if_pos rfl]; rfl) | (rw [hE, if_neg hc1]; rfl) | (rw [hE]; rfl))
 apply yf;apply ye;apply yb;iterate 2 refine ya ?_
 refine ExF.at 2 ?_;refine yG ?_;iterate 2 refine ExF.gi ?_
 refine yE ?_;refine yd ?_;refine yj rfl ?_ ?_<;>intro hc2
 ·have hE : ckMV m v = 2 := by unfold ckM at hc1; unfold ckMV; split at hc1 <;> simp_all; omega
  apply yb;refine ya ?_;refine Ex.mo ?_;refine yd ?_;refine X.ret ?_;refine yL ty40 ?_ ?_;all_goals (first | (rw [hE]; done) | (rw [hE, if_pos rfl]; done) | (rw [hE, if_pos rfl]; rfl) | (rw [hE, if_neg hc1]; rfl) | (rw [hE]; rfl))
 have hE : ckMV m v = 0 := by unfold ckM at hc1; unfold ckMV; split at hc1 <;> simp_all <;> omega
 apply yf;apply yb;iterate 2 refine ya ?_
 refine ym (zfl m hc1 v (by omega) (by omega)) ?_;refine Ex.mo ?_;refine yd ?_;refine X.ret ?_;refine yL ty40 ?_ ?_;all_goals (first | (rw [hE]; done) | (rw [hE, if_pos rfl]; done) | (rw [hE, if_pos rfl]; rfl) | (rw [hE, if_neg hc1]; rfl) | (rw [hE]; rfl))
end Go.Rse
namespace Go.Rse
open Go Go.Proofs
def zfm (f : Mn -> Int -> Bool) : Bool := ([2, 3] : List Int).all fun a => ([2, 3] : List Int).all fun b => ([2, 3] : List Int).all fun c => ([2, 3] : List Int).all fun e => ([1, 2, 3, 4, 5, 6, 7, 8] : List Int).all fun v => f ⟨a, b, c, e⟩ v
theorem zbv {f : Mn -> Int -> Bool} (h : zfm f = true) {m : Mn} {v : Int} (hm : ckM m = 0) (h1 : 1 <= v) (h8 : v <= 8) : f m v = true := by
 have ho : m.Ok := by
  unfold ckM at hm; split at hm
  ·assumption
  ·simp at hm
 obtain ⟨a, b, c, e⟩ := m;have hv : v ∈ ([1, 2, 3, 4, 5, 6, 7, 8] : List Int) := by simp; omega
 have h2 : ∀ x : Int, two3 x -> x ∈ ([2, 3] : List Int) := fun x hx => by simpa [two3] using hx
 unfold zfm at h;exact List.all_eq_true.1 (List.all_eq_true.1 (List.all_eq_true.1 (List.all_eq_true.1 (List.all_eq_true.1 h a (h2 _ ho.1)) b (h2 _ ho.2.1)) c (h2 _ ho.2.2.1)) e (h2 _ ho.2.2.2)) v hv
def zpx (m : Mn) (v : Int) : Bool :=
 decide (mulV (yx m v) ⟨2, 3⟩ = tmkT ((yx m v).N * 2) ((yx m v).D * 3)) && decide (mulV (durT m v) ⟨2, 1⟩ = tmkT ((durT m v).N * 2) ((durT m v).D * 1)) &&
 decide (ckT (yx m v) = 0) && decide (ckT (durT m v) = 0) && decide ((yx m v).N <= 81) && decide ((yx m v).D <= 8) && decide ((durT m v).N <= 81) && decide ((durT m v).D <= 24) && decide (1 <= (yx m v).N) && decide (1 <= (durT m v).N)
theorem zln : zfm zpx = true := by kernel_rfl
theorem zdx {m : Mn} {v : Int} (hm : ckM m = 0) (h1 : 1 <= v) (h8 : v <= 8) : mulV (yx m v) ⟨2, 3⟩ = tmkT ((yx m v).N * 2) ((yx m v).D * 3) /\ mulV (durT m v) ⟨2, 1⟩ = tmkT ((durT m v).N * 2) ((durT m v).D * 1) ∧
 ckT (yx m v) = 0 /\ ckT (durT m v) = 0 /\ (yx m v).N <= 81 /\ (yx m v).D <= 8 /\ (durT m v).N <= 81 /\ (durT m v).D <= 24 /\ 1 <= (yx m v).N /\ 1 <= (durT m v).N := by
 have h := zbv zln hm h1 h8;unfold zpx at h;simp only [Bool.and_eq_true, decide_eq_true_eq] at h;obtain ⟨⟨⟨⟨⟨⟨⟨⟨⟨a, b⟩, c⟩, d⟩, e⟩, f⟩, g⟩, i⟩, j⟩, k⟩ := h;exact ⟨a, b, c, d, e, f, g, i, j, k⟩
theorem ziU (m : Mn) (hm : ckM m = 0) : ((perfL m).length : Int) = 0 ↔ m.pl = true := by
 have h : ∀ v : Int, 1 <= v -> m.p v = 2 \/ m.p v = 3 := zfQ hm;have a := h 1 (by omega); have b := h 2 (by omega); have c := h 3 (by omega); have e := h 4 (by omega);have e1 : m.p 1 = m.Max := rfl;have e2 : m.p 2 = m.Mod := rfl;have e3 : m.p 3 = m.Tem := rfl;have e4 : m.p 4 = m.Pro := rfl;unfold perfL Mn.pl;rw [e1] at a; rw [e2] at b; rw [e3] at c; rw [e4] at e;simp only [List.filter_cons, e1, e2, e3, e4, List.filter_nil];rcases a with a | a <;> rcases b with b | b <;> rcases c with c | c <;> rcases e with e | e <;> simp [a, b, c, e]
end Go.Rse
namespace Go.Rse
open Go Go.Proofs
attribute [local irreducible] Pur yD yF Ex X Fn Imp LeV LeB FnO It yH
theorem zjH {m : Mn} {v : Int} (hm : ckM m = 0) (h1 : 1 <= v) (h8 : v <= 8) : ckMV m v = 0 := by
 unfold ckM at hm; unfold ckMV;split at hm
 ·rw [if_pos (by assumption), if_pos ⟨h1, h8⟩]
 ·simp at hm
theorem zau {m : Mn} {v : Int} (hm : ckM m = 0) (h1 : 1 <= v) (h8 : v <= 8) : Fn Tryz.prog 51 [mnA m, iv v] (.tup [tmA (yx m v), iv 0]) := by
 have h := zd4 m v;rw [zjH hm h1 h8, if_pos rfl] at h; exact h
theorem zcR {m : Mn} (hm : ckM m = 0) : Fn Tryz.prog 257 [mnA m] (.tup [yl (perfL m), iv 0]) := by
 have h := zc5 m;rw [hm, if_pos rfl] at h; exact h
theorem ziV {m : Mn} (hm : ckM m = 0) (h : ¬ ((perfL m).length : Int) = 0) : m.pl = false := by
 cases hp : m.pl with
 | false => rfl
 | true => exact absurd ((ziU m hm).2 hp) h
theorem zqi {m : Mn} {v : Int} (hm : ckM m = 0) (h1 : 1 <= v) (h8 : v <= 8) (h : ((perfL m).length : Int) = 0 \/ (v < 5 /\ m.p v = 3)) : durT m v = tmkT ((yx m v).N * 2) ((yx m v).D * 3) := by
 rw [← (zdx hm h1 h8).1];cases hp : m.pl with
 | true => exact zkj hp
 | false =>
  rcases h with h | h
  ·rw [(ziU m hm).1 h] at hp; cases hp
  ·exact zlW hp h.1 h.2
theorem zqj {m : Mn} {v : Int} (hm : ckM m = 0) (h1 : 1 <= v) (hp : m.pl = false) (h5 : v < 5) (h3 : ¬ m.p v = 3) : durT m v = tmkT ((durT m (v + 1)).N * 2) ((durT m (v + 1)).D * 1) := by
 rw [← (zdx hm (show 1 <= v + 1 by omega) (by omega)).2.1];exact zlX hp h5 h3
def clr (s : Sg) : Bool := decide (s.Kind = 1) && s.Color
def zcN (l : List Sg) (by' : Int) : Nat -> Int -> Option Sg
 | 0, _ => none
 | n + 1, i => if 0 <= i /\ i < (l.length : Int) then (if (l.getD i.toNat default).Kind = 3 then zcN l by' n (i + by') else some (l.getD i.toNat default)) else none
def zfn (l : List Sg) (by' i : Int) : Option Sg := zcN l by' (l.length + 2) i
theorem zlo {l : List Sg} {by' : Int} {n : Nat} {i : Int} (h : ¬ (0 <= i /\ i < (l.length : Int))) : zcN l by' n i = none := by
 cases n with
 | zero => rfl
 | succ n => unfold zcN; rw [if_neg h]
theorem zlp {l : List Sg} {by' : Int} {n : Nat} {i : Int} (h : 0 <= i /\ i < (l.length : Int)) (h3 : ¬ (l.getD i.toNat default).Kind = 3) (hn : 0 < n) : zcN l by' n i = some (l.getD i.toNat default) := by
 cases n with
 | zero => omega
 | succ n => unfold zcN; rw [if_pos h, if_neg h3]
theorem zlY {l : List Sg} {by' : Int} {n : Nat} {i : Int} (h : 0 <= i /\ i < (l.length : Int)) (h3 : (l.getD i.toNat default).Kind = 3) (hn : 0 < n) : zcN l by' n i = zcN l by' (n - 1) (i + by') := by
 cases n with
 | zero => omega
 | succ n => conv => lhs; unfold zcN
             rw [if_pos h, if_pos h3]; rfl
def frB : Option Sg -> Bool
 | some s => !clr s
 | none => true
def za6 (l : List Sg) (i : Int) : Bool := decide (i + 1 < (l.length : Int)) && clr (l.getD i.toNat default) && decide ((l.getD i.toNat default).Value = 4) && clr (l.getD (i + 1).toNat default) && decide ((l.getD (i + 1).toNat default).Value = 5) &&
 !(decide (i + 2 < (l.length : Int)) && decide ((l.getD (i + 2).toNat default).Kind = 3)) && frB (zfn l (-1) (i - 1)) && frB (zfn l 1 (i + 2))
attribute [local irreducible] yx durT mulV tmkT perfL zcN
theorem zbk (t : Tm) (n q : Int) (hp : 0 <= t.N * n /\ t.N * n <= 9223372036854775807) (hq : 0 <= t.D * q /\ t.D * q <= 9223372036854775807) : Fn Tryz.prog 288 [tmA t, iv n, iv q] (tmA (tmkT (t.N * n) (t.D * q))) := by
 refine Fn.go Tryz.func288 Tryz.ntmps288 (fun g w d => ?_);apply yb;refine yA ?_;refine yC ?_;apply yk;iterate 8 refine ya ?_
 refine ym (zbC (t.N * n) (t.D * q) (by omega) (by omega)) ?_;iterate 3 refine ya ?_
 refine yC ?_;refine Ex.mo ?_;refine ya ?_;apply yk;refine ya ?_;refine Ex.mo ?_;apply Ex.nil;refine X.ret ?_;refine RetQ.ret (.one (.cellA rfl rfl rfl rfl ty40 (LeV.eq ?_)));all_goals (rfl)
theorem zel (m : Mn) (hm : ckM m = 0) (v : Int) (h1 : 1 <= v) (h8 : v <= 8) : Fn Tryz.prog 241 [mnA m, iv v] (tmA (durT m v)) := by
 induction hn : (5 - v).toNat using Nat.strongRecOn generalizing v
 rename_i n ih;have hf := zdx hm h1 h8;have hb1 := zaW hf.2.2.1;refine Fn.go Tryz.func241 Tryz.ntmps241 (fun g w d => ?_);apply yb;refine yA ?_;refine yC ?_;apply yk;iterate 2 refine ya ?_
 refine ym (zau hm h1 h8) ?_;iterate 3 refine ya ?_
 refine yC ?_;refine Ex.mo ?_;refine ya ?_;apply yk;refine ya ?_;refine ym (zcR hm) ?_;refine zy ?_;apply ye;apply X.block;apply yb;iterate 3 refine ya ?_
 refine ExF.at 3 ?_;refine yG ?_;iterate 5 refine ExF.gi ?_
 refine ExF.cg (zr m v) ?_;iterate 2 refine ExF.gi ?_
 refine yE ?_;refine yg ?_;refine yj rfl ?_ ?_<;>intro hc1
 ·have hD := zqi hm h1 h8 hc1;apply yb;refine ya ?_;refine ym (zbk (yx m v) 2 3 (by omega) (by omega)) ?_;refine Ex.mo ?_;apply Ex.nil;refine X.ret ?_;refine RetQ.ret (.one (.cellA rfl rfl rfl rfl ty40 (LeV.eq ?_)));all_goals (rw [hD]; rfl)
 apply yb;refine yo ?_;refine yj rfl ?_ ?_<;>intro hc2
 ·have hD := ziS (ziV hm hc1.1) hc2;apply yb;refine ya ?_;refine Ex.mo ?_;apply Ex.nil;refine X.ret ?_;refine RetQ.ret (.one (.cellA rfl rfl rfl rfl ty40 (LeV.eq ?_)));all_goals (rw [hD]; rfl)
 have hD := zqj hm h1 (ziV hm hc1.1) hc2 (by omega);have hf2 := zdx hm (show 1 <= v + 1 by omega) (by omega);have hb2 := zaW hf2.2.2.2.1;apply yf;apply yb;iterate 3 refine ya ?_
 refine ym (ih (5 - (v + 1)).toNat (by omega) (v + 1) (by omega) (by omega) rfl) ?_;refine ym (zbk (durT m (v + 1)) 2 1 (by omega) (by omega)) ?_;refine Ex.mo ?_;apply Ex.nil;refine X.ret ?_;refine RetQ.ret (.one (.cellA rfl rfl rfl rfl ty40 (LeV.eq ?_)));all_goals (rw [hD]; rfl)
theorem zem (m : Mn) (v : Int) : Fn Tryz.prog 189 [mnA m, iv v] (.tup [tmA (if ckMV m v = 0 then durT m v else tmZ), iv (ckMV m v)]) := by
 refine Fn.go Tryz.func189 Tryz.ntmps189 (fun g w d => ?_);apply yb;refine yA ?_;refine yC ?_;refine ya ?_;apply yk;refine ya ?_;refine ym (zC m) ?_;refine yd ?_;apply ye;apply yb;refine yg ?_;refine yj rfl ?_ ?_<;>intro hc1
 ·have hE : ckMV m v = ckM m := by unfold ckMV ckM at *; split <;> simp_all
  apply yb;iterate 2 refine ya ?_
  refine Ex.mo ?_;refine yd ?_;refine X.ret ?_;refine yL ty40 ?_ ?_;all_goals (first | (rw [hE]; done) | (rw [hE, if_pos rfl]; done) | (rw [hE, if_pos rfl]; rfl) | (rw [hE, if_neg hc1]; rfl) | (rw [hE]; rfl))
 apply yf;apply ye;apply yb;iterate 2 refine ya ?_
 refine ExF.at 2 ?_;refine yG ?_;iterate 2 refine ExF.gi ?_
 refine yE ?_;refine yd ?_;refine yj rfl ?_ ?_<;>intro hc2
 ·have hE : ckMV m v = 2 := by unfold ckM at hc1; unfold ckMV; split at hc1 <;> simp_all; omega
  apply yb;refine ya ?_;refine Ex.mo ?_;refine yd ?_;refine X.ret ?_;refine yL ty40 ?_ ?_;all_goals (first | (rw [hE]; done) | (rw [hE, if_pos rfl]; done) | (rw [hE, if_pos rfl]; rfl) | (rw [hE, if_neg hc1]; rfl) | (rw [hE]; rfl))
 have hE : ckMV m v = 0 := by unfold ckM at hc1; unfold ckMV; split at hc1 <;> simp_all <;> omega
 apply yf;apply yb;iterate 2 refine ya ?_
 refine ym (zel m hc1 v (by omega) (by omega)) ?_;refine Ex.mo ?_;refine yd ?_;refine X.ret ?_;refine yL ty40 ?_ ?_;all_goals (first | (rw [hE]; done) | (rw [hE, if_pos rfl]; done) | (rw [hE, if_pos rfl]; rfl) | (rw [hE, if_neg hc1]; rfl) | (rw [hE]; rfl))
theorem zaB (s : Sg) : Fn Tryz.prog 267 [sgA s] (.bool (clr s)) := by
 refine Fn.go Tryz.func267 Tryz.ntmps267 (fun g w d => ?_);apply yb;refine yA ?_;refine ya ?_;apply yk;iterate 3 refine ya ?_
 refine ExF.at 3 ?_;refine yG ?_;iterate 2 refine ExF.gi ?_
 refine yE ?_;refine yg ?_;refine X.ret ?_;refine yh ?_;all_goals (rfl)
theorem zen (l : List Sg) (hl : l.length <= 4000000000) (i b : Int) (hb : b = 1 \/ b = -1) (h0 : -2 <= i) (h1 : i <= (l.length : Int) + 2) (h2 : b = -1 -> i <= (l.length : Int) + 1) : Fn Tryz.prog 355 [sgsA l, iv i, iv b] (.bool (frB (zfn l b i))) := by
 refine Fn.go Tryz.func355 Tryz.ntmps355 (fun g w d => ?_);apply yb;refine yd ?_;apply ye;apply X.block
 refine zb (ι := Nat × Int) (fun (p : Nat × Int) => [(0, sgsA l), (1, iv p.2), (2, iv b)]) (fun (p : Nat × Int) => []) (fun (p : Nat × Int) => zcN l b (l.length + 2) i = zcN l b p.1 p.2 /\ ((b = 1 /\ (l.length : Int) - p.2 <= (p.1 : Int)) \/ (b = -1 /\ p.2 + 1 <= (p.1 : Int))) /\ -3 <= p.2 /\ p.2 <= (l.length : Int) + 3) (fun (p : Nat × Int) => p.1) (l.length + 2, i) (fun p hk => ?_) (hJ := by
  exact ⟨rfl, by dsimp only; omega, by dsimp only; omega, by dsimp only; omega⟩)
 obtain ⟨n, j⟩ := p;obtain ⟨k1, k2, k3, k4⟩ := hk;dsimp only at *
 apply ye;apply yb;iterate 2 refine ya ?_
 refine ExF.at 2 ?_;refine yG ?_;iterate 4 refine ExF.gi ?_
 refine yE ?_;refine yd ?_;refine yj rfl ?_ ?_<;>intro hc1
 ·apply yf;apply ye;apply X.block;apply yb;iterate 5 refine ya ?_
  refine yd ?_;refine yj rfl ?_ ?_<;>intro hc2
  ·apply yb;(iterate 4 refine ya ?_);refine ym (zaB _) ?_;refine yg ?_;refine X.ret ?_;refine yh ?_;all_goals (unfold zfn; rw [k1, zlp hc1 hc2 (by omega)]; rfl)
  apply yf;apply yc;refine zx ?_
  refine yJ ((n - 1, j + b)) (hJ := by
   exact ⟨by rw [k1, zlY hc1 hc2 (by omega)], by dsimp only; omega, by dsimp only; omega, by dsimp only; omega⟩) (hm := by dsimp only; omega)
 ·apply X.exit;apply yb;refine yd ?_;refine X.ret ?_;refine yh ?_;all_goals (unfold zfn; rw [k1, zlo (by omega)]; rfl)
end Go.Rse
