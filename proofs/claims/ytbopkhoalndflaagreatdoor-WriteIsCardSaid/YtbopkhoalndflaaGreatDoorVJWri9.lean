/-
  Walks.
-/
import Derived.Test.YtbopkhoalndflaaGreatDoorVJRef22c
import Derived.Lib.AppendZeros
set_option linter.all false
namespace Go.Rse
open Go Go.Proofs Go.Proofs.Tryz
def zvV {m : Mn} {l : List Bt} (h : wcE m l = 0) {b : Bt} (Z : b ∈ l) : wcE m [b] = 0 := by
 unfold wcE at *
 split at h
 ·rename_i h0;rw [j4 h0];have := zkH.1 h b Z;show (if btC b = 0 then 0 else btC b) = 0;rw [j4 this]
 ·exact absurd h ‹_›
def zvW {m : Mn} {l : List Bt} (h : wcE m l = 0) {b : Bt} (Z : b ∈ l) (q : Hb) : fmV m b q = frV m b q := by
 unfold fmV; rw [j4 (zvV h Z)]
attribute [local irreducible] Pur yu yq Ex X Fn Imp LeV LeB FnO It yD FnW FnOW FnP FnD
attribute [local irreducible] wcE frV fmV cqO cqN cqS wcnE wcnV durB
set_option maxHeartbeats 1000000 in
def zak (m : Mn) (l : List Bt) (h : Hb) (hl : l.length <= 9223372036854775807) : Fn prog 19 [mnA m, btsA l, hbA h] (.tup [iv (wcnV m l h), iv (wcnE m l h)]) := by
 have x1 : (1 : Int) = ((cqN m h (l.take 0) : Nat) : Int) := by unfold cqN; rfl
 have x0 : false = cqO m h (l.take 0) := by unfold cqO; rfl
 refine xV func19 ntmps19 (fun g w d => ?_);refine gc (za2 m l (by omega)) ?_;refine gd ?_ ?_<;>intro G
 ·have E := zqj (h := h) G;obtain ⟨hE, V⟩ := E;refine gq ?_;refine yj ?_ ?_;all_goals (first | exact zE V | exact zE hE | (rw [V, Z]; done))
 have h0 : wcE m l = 0 := by omega
 refine gd ?_ ?_<;>intro w2
 ·have xT := zuo (h := h) h0 (by omega);obtain ⟨hE, V⟩ := xT;refine gq ?_;refine yj ?_ ?_;all_goals (first | exact zE V | exact zE hE | (rw [V, Z]; done))
 have U : ¬ 12 < l.length := by omega
 apply yl;apply ye;refine ya ?_;apply yE;refine yh ?_;apply yg;apply ye;refine yh ?_;apply xS;refine zq (fun k => [(1, btsA l), (3, .ptr 3 0 0 0), (5, .ptr 5 0 0 0), (9, iv ((cqN m h (l.take k) : Nat) : Int)), (10, .bool (cqO m h (l.take k))), (11, iv (k : Int))]) (fun k => [(3, .box (mnE m) 23), (5, .box (hbE h) 32)]) l.length (fun k hk => ?_);refine gd ?_ ?_<;>intro v9
 ·obtain ⟨b, H⟩ : ∃ b, l[k]? = some b := ⟨_, lgg (by omega)⟩;have v8 : l[(k : Int).toNat]? = some b := by simpa using H
  have T := zcf m b h;rw [zvW h0 (j6 H)] at T;have hf := zgn m b h
  have hO : (cqO m h (l.take k) || decide (((frV m b h).length : Int) = 0)) = cqO m h (l.take (k + 1)) := by
   rw [zxP H]; exact j5 _ (decide_eq_decide.2 (by omega))
  have hq : cqN m h (l.take (k + 1)) <= 131072 := by unfold cqN; exact zvv m h _ 1 (by decide)
  have hs := zxQ (m := m) (h := h) H;refine gq ?_;refine yW [12,13,29,30,31,32,33,34,35,36,37,38] [0,0,0,6,14,0,63,127,255,255,511,2047] mo ?_;iterate 6 refine yb ?_
  refine yH T ?_;iterate 5 refine yb ?_
  refine yA ?_;apply yE;refine ya ?_;refine xX 1 ?_;refine ym ?_;iterate 3 refine xW ?_
  refine zdF ?_;iterate 2 refine ya ?_
  apply yE;iterate 3 refine ya ?_
  refine xX 3 ?_;refine ym ?_;iterate 2 refine xW ?_
  refine gf ?_ ?_<;>intro v5
  ·have hN : ((cqN m h (l.take k) : Nat) : Int) * ((frV m b h).length : Int) = ((cqN m h (l.take (k + 1)) : Nat) : Int) := by rw [hs]; exact zxD (by omega) (by omega)
   refine gq ?_;refine yw (k + 1) (hI := yk)
  ·have hN : ((cqN m h (l.take k) : Nat) : Int) = ((cqN m h (l.take (k + 1)) : Nat) : Int) := by rw [hs, ← zxE (by omega)]
   refine gq ?_;refine yw (k + 1) (hI := yk)
 ·obtain rfl : k = l.length := by omega
  have N : cqO m h (l.take l.length) = cqO m h l := by rw [jH]
  have Z : cqN m h (l.take l.length) = cqN m h l := by rw [jH]
  refine gd ?_ ?_<;>intro J
  ·have x4 := zAA h0 U (by rw [← N]; exact J);obtain ⟨hE, V⟩ := x4;refine gq ?_;refine yj ?_ ?_;all_goals (first | exact zE V | exact zE hE | (rw [V, Z]; done))
  have I : cqO m h l = false := by rw [← N]; simpa using J
  refine gd ?_ ?_<;>intro v4
  ·have x3 := zAB h0 U I (by rw [← Z]; omega);obtain ⟨hE, V⟩ := x3;refine gq ?_;refine yj ?_ ?_;all_goals (first | exact zE V | exact zE hE | (rw [V, Z]; done))
  have x2 := zAC h0 U I (by rw [← Z]; omega);obtain ⟨hE, V⟩ := x2;refine gq ?_;refine yj ?_ ?_;all_goals (first | exact zE V | exact zE hE | (rw [V, Z]; done))
def zbp (l : List Bt) (hl : l.length <= 4000000000) : Fn prog 83 [btsA l] (tmsA (durB l)) := by
 have V : [] = durB (l.take 0) := by unfold durB; rfl
 refine xV func83 ntmps83 (fun g w d => ?_);apply ye;refine ya ?_;apply yE;refine yh ?_;iterate 2 apply yg
 refine xZ (yF tmE 83 2 3 30 rfl rfl) ?_;apply yi;refine yh ?_;apply xS;refine zq (fun k => [(0, btsA l), (3, .own 30), (4, iv (k : Int))]) (fun k => [(30, .row tmE (durB (l.take k)) 83 2)]) l.length (fun k H => ?_);refine gd ?_ ?_<;>intro U
 ·obtain ⟨b, Z⟩ : ∃ b, l[k]? = some b := ⟨_, lgg (by omega)⟩;have T : l[(k : Int).toNat]? = some b := by simpa using Z
  have N := zmF Z;have J : (durB (l.take k)).length <= l.length := by rw [zgx, jM]; omega
  refine gq ?_;refine yz tmE [b.Dur] ?_;refine gq ?_;refine yw (k + 1) (hI := yk)
 ·obtain rfl : k = l.length := by omega
  have I : durB (l.take l.length) = durB l := by rw [jH]
  apply k8;apply ye;refine yL ?_;refine xU ?_;refine xQ (xP (k := 30) rfl) ?_;refine gq ?_;all_goals (exact j5 (fun z => tmsA z) I)
def zeb (l : List Bt) (hl : l.length <= 4000000000) : Fn prog 32 [btsA l] (tmsA (durB l)) := by
 have V : [] = durB (l.take 0) := by unfold durB; rfl
 refine xV func32 ntmps32 (fun g w d => ?_);apply ye;refine ya ?_;apply yE;refine yh ?_;iterate 2 apply yg
 refine xZ (yF tmE 83 2 3 30 rfl rfl) ?_;apply yi;refine yh ?_;apply xS;refine zq (fun k => [(0, btsA l), (3, .own 30), (4, iv (k : Int))]) (fun k => [(30, .row tmE (durB (l.take k)) 83 2)]) l.length (fun k H => ?_);refine gd ?_ ?_<;>intro U
 ·obtain ⟨b, Z⟩ : ∃ b, l[k]? = some b := ⟨_, lgg (by omega)⟩;have T : l[(k : Int).toNat]? = some b := by simpa using Z
  have N := zmF Z;have J : (durB (l.take k)).length <= l.length := by rw [zgx, jM]; omega
  refine gq ?_;refine yz tmE [b.Dur] ?_;refine gq ?_;refine yw (k + 1) (hI := yk)
 ·obtain rfl : k = l.length := by omega
  have I : durB (l.take l.length) = durB l := by rw [jH]
  apply k8;apply ye;refine yL ?_;refine xU ?_;refine xQ (xP (k := 30) rfl) ?_;refine gq ?_;all_goals (exact j5 (fun z => tmsA z) I)
end Go.Rse
namespace Go.Rse
open Go Go.RowKit Go.Proofs.Tryz
section
variable {P : Program} {C : Ctx} {st : St} {ty : TypeId} {x y : Operand} {xt yt : TypeId} {p q : Int}
end
end Go.Rse
namespace Go.Rse
open Go Go.Proofs Go.Proofs.Tryz
section
def znO (r : List Sg) (k : Nat) : rsL r = rsL (r.take k) ++ rsL (r.drop k) := by
 conv => lhs; rw [← w9 k r]
 unfold rsL; rw [wU, xE]
def zvX {r : List Sg} {k : Nat} {s : Sg} (hs : r[k]? = some s) (Z : ¬ s.Kind = 3) : (rsL r)[(rsL (r.take k)).length]? = some (decide (s.Kind = 2)) := by
 have h := j1.1 hs;rw [znO r k, wO (jC _), Nat.sub_self, jG h.1, h.2];unfold rsL; simp [Z]
def riJ (l : List Bt) (r : List Sg) (k : Nat) : Prop := rsL (r.take k) = (l.map (·.Rest)).take (rsL (r.take k)).length /\ (rsL (r.take k)).length <= l.length
def zyj (l : List Bt) (r : List Sg) : riJ l r 0 := by unfold riJ rsL; simp
def zsr {l : List Bt} {r : List Sg} {k : Nat} {s : Sg} (h : riJ l r k) (hs : r[k]? = some s) (Z : s.Kind = 3) : riJ l r (k + 1) := by
 unfold riJ at *; rw [← zgC hs Z]; exact h
def zyk {l : List Bt} {r : List Sg} {k : Nat} {s : Sg} (h : riJ l r k) (hs : r[k]? = some s) (V : ¬ s.Kind = 3) (Z : (rsL (r.take k)).length < l.length) (he : (decide (s.Kind = 2) == (l.getD (rsL (r.take k)).length default).Rest) = true) : riJ l r (k + 1) := by
 unfold riJ at *
 have e : (l.map (·.Rest))[(rsL (r.take k)).length]? = some (decide (s.Kind = 2)) := by
  rw [jK, lgg Z];rw [jA, lgg Z] at he;have he := eq_of_beq he;simp only [uG] at he;rw [he]; rfl
 rw [← zg4 hs V, jJ, show [decide (s.Kind = 2)].length = 1 from rfl, jE, e, ← h.1];exact ⟨rfl, by omega⟩
def zyl {l : List Bt} {r : List Sg} {k : Nat} {s : Sg} (hs : r[k]? = some s) (V : ¬ s.Kind = 3) (h : (l.length : Int) <= ((rsL (r.take k)).length : Int) \/ (decide (s.Kind = 2) == (l.getD (((rsL (r.take k)).length : Nat) : Int).toNat default).Rest) = false) : ¬ l.map (·.Rest) = rsL r := fun e => by
 have Z := zvX hs V;rw [← e, jK] at Z;cases hl : l[(rsL (r.take k)).length]? with
 | none => rw [hl] at Z; cases Z
 | some b =>
  rw [hl] at Z;injection Z with Z;have U := (j1.1 hl).1;rcases h with h | h
  ·omega
  ·rw [wJ, jA, hl, uG, ← Z] at h;simp at h
def zvY {l : List Bt} {r : List Sg} (h : riJ l r r.length) : decide (((rsL r).length : Int) = (l.length : Int)) = decide (l.map (·.Rest) = rsL r) := by
 unfold riJ at h;rw [jH] at h;refine decide_eq_decide.2 ⟨fun e => ?_, fun e => ?_⟩
 ·rw [h.1, show (rsL r).length = (l.map (·.Rest)).length by rw [jU]; omega, jH]
 ·rw [← e, jU]
attribute [local irreducible] Pur yu yq Ex X Fn Imp LeV LeB FnO It yD FnW FnOW FnP FnD
attribute [local irreducible] wcE ckD durB rdE rdV rsL wisE wisB riJ
set_option maxHeartbeats 2000000 in
def zg5 (m : Mn) (l : List Bt) (r : List Sg) (hl : l.length <= 4000000000) (hr : r.length <= 1000) : Fn prog 21 [mnA m, btsA l, sgsA r] (.tup [.bool (wisB m l r), iv (wisE m l r)]) := by
 have xT : (0 : Int) = ((rsL (r.take 0)).length : Int) := by unfold rsL; rfl
 refine xV func21 ntmps21 (fun g w d => ?_);refine gc (za2 m l (by omega)) ?_;refine gd ?_ ?_<;>intro Z
 ·have hE := (zvL (r := r) Z).1;have N := (zvL (r := r) Z).2;refine gq ?_;refine yj ?_ ?_;all_goals (first | exact zE N | exact zE hE)
 refine gc (zaL m r (by omega)) ?_;refine gd ?_ ?_<;>intro T
 ·have hE := (zvM Z T).1;have N := (zvM Z T).2;refine gq ?_;refine yj ?_ ?_;all_goals (first | exact zE N | exact zE hE)
 have hE := (zvN Z T).1;have N := (zvN Z T).2;apply yl;apply ye;refine yh ?_;apply yg;apply ye;refine yh ?_;apply xS;refine zX (fun k => [(1, btsA l), (2, sgsA r), (3, .ptr 3 0 0 0), (6, .bool false), (7, iv 0), (9, iv ((rsL (r.take k)).length : Int)), (10, iv (k : Int))]) (fun k => [(3, .box (mnE m) 23)]) (fun k => k <= r.length /\ riJ l r k) r.length (fun k hk => ?_) (hJ := by exact ⟨wF _, zyj l r⟩);obtain ⟨k1, k2⟩ := hk;refine gd ?_ ?_<;>intro x4
 ·obtain ⟨s, hs⟩ : ∃ s, r[k]? = some s := ⟨_, lgg (by omega)⟩;have x3 : r[(k : Int).toNat]? = some s := by simpa using hs
  have x2 := zhR (r.take k);have E : (r.take k).length <= 1000 := by rw [jM]; omega
  refine gd ?_ ?_<;>intro V
  ·have U := zsr k2 hs V;have H : ((rsL (r.take k)).length : Int) = ((rsL (r.take (k + 1))).length : Int) := by rw [zgC hs V]
   refine gq ?_;refine yw (k + 1) (hJ := by exact ⟨by omega, U⟩) (hI := yk)
  refine gq ?_;refine yW [35,36,37,38,39,40,41,42,43,44,45,46,47,48,49,50,51,52] [0,0,2,7,15,31,31,127,255,511,1023,31,31,6175,14367,30751,65535,131071] mo ?_;iterate 5 refine yb ?_
  iterate 12 refine k6 ?_
  refine yb ?_;refine yA ?_;refine gd ?_ ?_<;>intro J
  ·have G := zyl hs V J;refine gq ?_;refine yj ?_ ?_;all_goals (first | exact zE hE | (rw [N, j9 G]; rfl))
  have U := zyk k2 hs V (by omega) (by have := J.2; rw [wJ] at this; exact this);have H : ((rsL (r.take k)).length : Int) + 1 = ((rsL (r.take (k + 1))).length : Int) := by rw [← zg4 hs V, jJ]; rfl
  refine gq ?_;refine yw (k + 1) (hJ := by exact ⟨by omega, U⟩) (hI := yk)
 ·obtain rfl : k = r.length := by omega
  have I := zvY k2;refine gq ?_;refine yW [6,7,55,56,57,58,59,60,61,62,63,64,65] [0,0,2,7,15,31,31,31,159,511,1023,2047,4095] mo ?_;iterate 5 refine yb ?_
  iterate 3 refine k6 ?_
  refine kJ (zbp l hl) ?_;refine kJ (zch m r (durB l) hr) ?_;iterate 3 refine yb ?_
  refine yA ?_;refine gq ?_;refine yj ?_ ?_;all_goals (first | exact zE hE | (rw [N, ← I, jH]; rfl))
end
section
attribute [local irreducible] Pur yu yq Ex X Fn Imp LeV LeB FnO It yD FnW FnOW FnP FnD
attribute [local irreducible] wcnE wcnV wisB wisE
set_option maxHeartbeats 4000000 in
def C_tactuslaw23_WriteIs (m : Mn) (l : List Bt) (h : Hb) (r : List Sg) : Fn prog 4 [mnA m, btsA l, hbA h, sgsA r] (.bool true) := by
 refine xV func4 ntmps4 (fun g w d => ?_);apply ye;iterate 2 refine zF ?_
 refine yh ?_;apply yg;apply ye;iterate 3 refine ya ?_
 refine xX 3 ?_;refine ym ?_;iterate 3 refine xW ?_
 refine gf ?_ ?_<;>intro U
 ·apply ye;refine gc zK ?_;all_goals (first | rfl | simp)
 have Z : l.length <= 40 := by omega
 have V : r.length <= 40 := by omega
 refine gc (zda l (by omega)) ?_;refine gc (zei r (by omega)) ?_;refine gc (zfr m l h (by omega)) ?_;refine gc (zak m l h (by omega)) ?_;refine gc (zin m l r (by omega) (by omega)) ?_;refine yM (zg5 m l r (by omega) (by omega)) ?_;iterate 5 refine ya ?_
 apply yE;iterate 3 refine ya ?_
 refine xX 3 ?_;refine gq ?_;refine kK (zbf l l (by omega)) ?_;refine gq ?_;refine kK (zw r r (by omega)) ?_;refine gq ?_;refine kK zK ?_;refine ge ?_;all_goals (first | rfl | simp)
end
section
def andI (p q : Int) : Int := IntKind.i64.wrap ((BitVec.ofInt 64 p &&& BitVec.ofInt 64 q).toNat : Int)
def hbN (n : Int) : Hb := ⟨!decide (andI n 4 = 0), !decide (andI n 2 = 0), !decide (andI n 1 = 0)⟩
def zbV (D : List Tm) (R : List Bool) : List Bt := List.zipWith Bt.mk D R
def zym (D : List Tm) : [] = zbV D [] := by unfold zbV; simp
def zur : ∀ {R : List Bool} {D : List Tm} {t : Tm} {r : Bool}, D[R.length]? = some t -> zbV D R ++ [⟨t, r⟩] = zbV D (R ++ [r])
 | [], D, t, r, h => by
  cases D with
  | nil => simp at h
  | cons x D => simp at h; subst h; simp [zbV]
 | y :: R, D, t, r, h => by
  cases D with
  | nil => simp at h
  | cons x D =>
   have := zur (R := R) (D := D) (t := t) (r := r) (by simpa using h);unfold zbV at *
   simp only [List.zipWith_cons_cons, wV, this]
def zkW (D : List Tm) (R : List Bool) (h : R.length <= D.length) : (zbV D R).length = R.length := by unfold zbV; rw [List.length_zipWith]; omega
def zmJ (l : List Sg) (k : Nat) : (rsL (l.take k)).length <= (rsL l).length := by
 have : l.take k ++ l.drop k = l := w9 k l;rw [← this];unfold rsL; simp [w9];have Z : (l.filter fun s => !decide (s.Kind = 3)) = ((l.take k).filter fun s => !decide (s.Kind = 3)) ++ ((l.drop k).filter fun s => !decide (s.Kind = 3)) := by rw [← wU, w9]
 rw [Z, jJ]; omega
def zqo {m : Mn} : ∀ (L : List Int) (l : List Ite) (C : List Int), (lvF m L l C).2.2 = 0 -> (lvF m L l C).2.1.length = l.length
 | [], l, C, _ => rfl
 | k :: r, l, C, h0 => by
  unfold lvF at h0 ⊢;split at h0
  ·rename_i h;rw [j4 h];have := zqo (m := m) r (apV m k l (cuV m k l)) (C ++ cuV m k l) h0;rw [zkr (zlx h)] at this; exact this
  ·rename_i h; exact absurd h0 h
def zvZ {m : Mn} {l : List Ite} (h : leE m l = 0) : (leI m l).length = l.length := by
 unfold leI;rw [j4 h];unfold leE at h;split at h
 ·split at h
  ·exact zqo _ _ _ h
  ·rename_i Z; exact absurd h Z
 ·rename_i Z; exact absurd h Z
def zkX (l : List Sg) : ∀ k, ntN l k = (rsL (l.take k)).length
 | 0 => by unfold rsL; rfl
 | k + 1 => by
  unfold ntN;cases h : l[k]? with
  | none =>
   have V := List.getElem?_eq_none_iff.1 h;rw [jY (by omega : l.length <= k + 1), zkX l k, jY V]
  | some s =>
   by_cases Z : s.Kind = 3
   ·show (if s.Kind = 3 then ntN l k else ntN l k + 1) = _;rw [j4 Z, zkX l k, zgC h Z]
   ·show (if s.Kind = 3 then ntN l k else ntN l k + 1) = _;rw [j3 Z, zkX l k, ← zg4 h Z, jJ]; rfl
def zqp {m : Mn} {l : List Sg} (h : rdE m l = 0) : (rdV m l).Durs.length = (rsL l).length := by
 have Z : ckD m l = 0 := by
  apply wP; intro V; unfold rdE at h; rw [j3 V] at h; exact V h
 have he : leE m (rdI m l) = 0 := by unfold rdE at h; rw [j4 Z] at h; exact h
 unfold rdV;rw [j4 h];show ((leI m (rdI m l)).map _).length = _;rw [jU, zvZ he];unfold rdI;rw [zmn (zp0 Z), zh8, zkX, jH]
def bsV (m : Mn) (l : List Sg) : List Bt := if rdE m l = 0 then zbV (rdV m l).Durs (rsL l) else []
attribute [local irreducible] Pur yu yq Ex X Fn Imp LeV LeB FnO It yD FnW FnOW FnP FnD
attribute [local irreducible] wcE btF ckT ckM ckD frV wcnE wcnV cnP chV durB rdE rdV rsL wisE wisB zbV
end
end Go.Rse
namespace Go.Rse
open Go Go.RowKit Go.Proofs.Tryz
section
variable {P : Program} {C : Ctx} {st : St} {ty : TypeId} {Q : Exit -> St -> Prop}
end
end Go.Rse
namespace Go.Rse
open Go Go.Proofs Go.Proofs.Tryz
section
attribute [local irreducible] Pur yu yq Ex X Fn Imp LeV LeB FnO It yD FnW FnOW FnP FnD
end
section
def wuL : List (List (List Sg)) -> List Sg -> List (List Sg)
 | [], r => [r]
 | f :: F, r => f.flatMap fun x => wuL F (r ++ x)
attribute [local irreducible] Pur yu yq Ex X Fn Imp LeV LeB FnO It yD FnW FnOW FnP FnD
attribute [local irreducible] wuL
end
section
def fmL (m : Mn) (l : List Bt) (h : Hb) : List (List (List Sg)) := l.map fun b => fmV m b h
def wyL (m : Mn) (l : List Bt) (h : Hb) : List (List Sg) := (wuL (fmL m l h) []).filter fun x => reQ m x (durB l)
def wyX (m : Mn) (l : List Bt) (h : Hb) : List (List AV) := (wyL m l h).map fun x => [sgsA x]
attribute [local irreducible] Pur yu yq Ex X Fn Imp LeV LeB FnO It yD FnW FnOW FnP FnD
attribute [local irreducible] wuL wyX wyL fmL fmV durB wcE wcnE wcnV rdE rdV
end
section
attribute [local irreducible] Pur yu yq Ex X Fn Imp LeV LeB FnO It yD FnW FnOW FnP FnD
attribute [local irreducible] wuL wyX wyL fmL fmV durB wcE wcnE wcnV rdE rdV
end
section
attribute [local irreducible] Pur yu yq Ex X Fn Imp LeV LeB FnO It yD FnW FnOW FnP FnD
attribute [local irreducible] wcE wcnE wcnV rdE rdV bsV ckD orV cmpI
end
section
def wq (m : Mn) (z : List Bt) (v : Int) : Bool := decide (¬ (wyX m z (hbN v)).length = 0)
def hv (m : Mn) (z : List Bt) (n v : Nat) : Bool := decide (v < n) && wq m z (v : Int)
attribute [local irreducible] Pur yu yq Ex X Fn Imp LeV LeB FnO It yD FnW FnOW FnP FnD
attribute [local irreducible] hbN wcE wcnE wcnV wq hv wyX
end
section
abbrev dtS : Sg := ⟨3, 0, 0, 0, false, 0, false, false, ⟨0, 0, 0, 0⟩, false, 0, 0, 0, 0⟩
attribute [local irreducible] Pur yu yq Ex X Fn Imp LeV LeB FnO It yD FnW FnOW FnP FnD
attribute [local irreducible] wcE wcnE rdE rdV bsV
end
section
attribute [local irreducible] Pur yu yq Ex X Fn Imp LeV LeB FnO It yD FnW FnOW FnP FnD
attribute [local irreducible] hbN wcnE
end
section
end
section
attribute [local irreducible] Pur yu yq Ex X Fn Imp LeV LeB FnO It yD FnW FnOW FnP FnD
attribute [local irreducible] wcnE gI
end
section
attribute [local irreducible] Pur yu yq Ex X Fn Imp LeV LeB FnO It yD FnW FnOW FnP FnD
attribute [local irreducible] wcnE gI rdE bsV
end
section
attribute [local irreducible] Pur yu yq Ex X Fn Imp LeV LeB FnO It yD FnW FnOW FnP FnD
attribute [local irreducible] wcnE wcnV
end
section
def hbL (a b : Hb) : Bool := (!a.Color || b.Color) && (!a.Dots || b.Dots) && (!a.Alter || b.Alter)
def znP {a b : Hb} : hbL a b = true ↔ (a.Color = true -> b.Color = true) /\ (a.Dots = true -> b.Dots = true) /\ (a.Alter = true -> b.Alter = true) := by
 grind [hbL]
def zqq {a b : Hb} (h : hbL a b = true) : (a.Color = true -> b.Color = true) /\ (a.Dots = true -> b.Dots = true) /\ (a.Alter = true -> b.Alter = true) := znP.1 h
theorem zqr {s : Sp} {a b : Hb} (h : hbL a b = true) (hs : usQ s a = true) : usQ s b = true := by
 obtain ⟨Z, V, U⟩ := zqq h
 grind [usQ]
theorem zlU {x : Bt} {s : Sp} {a b : Hb} (h : hbL a b = true) (hs : slQ x a s = true) : slQ x b s = true := by
 grind [slQ, zqr]
def zqs {α : Type} {p q : Bool} {l : List α} (h : p = true -> q = true) : (if p = true then l else []).Sublist (if q = true then l else []) := by
 grind
def zlV {α : Type} {L : List α} {p q : α -> Bool} (h : ∀ x, p x = true -> q x = true) (Z : L.any p = true) : L.any q = true := by
 grind
def znQ {x : Bt} {a b : Hb} (h : hbL a b = true) (L : List Sp) (v : Int) (c : Bool) : (rkC x a L v c).Sublist (rkC x b L v c) := by
 unfold rkC;refine List.Sublist.append (zqs (zlV fun s hs => ?_)) (zqs fun Z => ?_)
 ·grind [zlU]
 ·rw [j7] at *
  refine ⟨zlV (fun s hs => ?_) Z.1, (zqq h).2.1 Z.2⟩
  grind [zlU]
def znR {x : Bt} {a b : Hb} (h : hbL a b = true) (L : List Sp) : ∀ n, (rkL x a L n).Sublist (rkL x b L n)
 | 0 => x6 _
 | n + 1 => (znR h L n).append ((znQ h L _ _).append (znQ h L _ _))
def znS {x : Bt} {a b : Hb} (h : hbL a b = true) (m : Mn) : (frV m x a).Sublist (frV m x b) := (znR h _ 8).map _
def zss {x : Bt} {a b : Hb} (h : hbL a b = true) (m : Mn) : (fmV m x a).Sublist (fmV m x b) := by
 unfold fmV; split
 ·exact znS h m
 ·exact x6 _
def zlW {α β : Type} {f g : α -> List β} (hf : ∀ x, (f x).Sublist (g x)) {l k : List α} (h : l.Sublist k) : (l.flatMap f).Sublist (k.flatMap g) := by
 induction h with
 | slnil => exact x6 _
 | cons a _ ih => rw [u9]; exact ih.trans (List.sublist_append_right _ _)
 | cons_cons a _ ih => rw [u9, u9]; exact (hf a).append ih
def znT {a b : Hb} (h : hbL a b = true) (m : Mn) : ∀ (l : List Bt) (r : List Sg), (wuL (fmL m l a) r).Sublist (wuL (fmL m l b) r)
 | [], r => x6 _
 | x :: l, r => zlW (fun y => znT h m l (r ++ y)) (zss h m)
def zst {a b : Hb} (h : hbL a b = true) (m : Mn) (l : List Bt) : (wyL m l a).Sublist (wyL m l b) := (znT h m l []).filter _
def znU {a b : Hb} (h : hbL a b = true) (m : Mn) : ∀ (l : List Bt), cnP m a l <= cnP m b l
 | [] => jC _
 | x :: l => xK (znS h m).length_le (znU h m l)
def FmQ (r : Bool) (x : List Sg) : Prop := ∃ s : Sg, (s.Kind = 1 \/ s.Kind = 2 /\ s.Color = false) /\ decide (s.Kind = 2) = r /\ (x = [s] \/ x = [s, dtS])
def zv0 (r : Bool) (f : Fo) : FmQ r (foS r f) := by
 grind [foS, FmQ]
def zv1 {m : Mn} {b : Bt} {h : Hb} {x : List Sg} (hx : x ∈ fmV m b h) : FmQ b.Rest x := by
 unfold fmV at hx;split at hx
 ·obtain ⟨f, -, rfl⟩ := jV.1 hx; exact zv0 _ _
 ·simp at hx
def zsu (a b : List Sg) : rsL (a ++ b) = rsL a ++ rsL b := by simp [rsL]
def zv2 {r : Bool} {x : List Sg} (h : FmQ r x) : rsL x = [r] := by
 obtain ⟨s, Z, V, U⟩ := h
 grind [rsL]
def cqQ (y : List Sg) : Prop := ∀ s ∈ y, s.Color = true -> s.Kind = 1
def zv3 {a b : List Sg} (Z : cqQ a) (V : cqQ b) : cqQ (a ++ b) := fun s hs => by
 rcases wG.1 hs with h | h
 ·exact Z s h
 ·exact V s h
def zyn {r : Bool} {x : List Sg} (h : FmQ r x) : cqQ x := by
 obtain ⟨s, Z, -, V⟩ := h
 grind [cqQ]
def zqt (m : Mn) (h : Hb) : ∀ (l : List Bt) (r y : List Sg), y ∈ wuL (fmL m l h) r -> rsL y = rsL r ++ l.map (·.Rest) /\ (cqQ r -> cqQ y)
 | [], r, y, Z => by
  have : y = r := vT.1 Z;subst this; simp
 | b :: l, r, y, Z => by
  obtain ⟨x, hx, Z⟩ := List.mem_flatMap.1 (show y ∈ (fmV m b h).flatMap fun x => wuL (fmL m l h) (r ++ x) from Z);obtain ⟨V, U⟩ := zqt m h l (r ++ x) y Z;have hf := zv1 hx;refine ⟨?_, fun hr => U (zv3 hr (zyn hf))⟩;rw [V, zsu, zv2 hf, vG]; rfl
def zqu {m : Mn} {l : List Bt} {h : Hb} {y : List Sg} (Z : y ∈ wyL m l h) : rsL y = l.map (·.Rest) /\ cqQ y /\ rdE m y = 0 /\ (rdV m y).Durs = durB l := by
 unfold wyL at Z;obtain ⟨V, U⟩ := wR.1 Z;obtain ⟨T, N⟩ := zqt m h l [] y V
 grind [reQ, rsL, cqQ]
def zqv (m : Mn) (D : List Tm) : ∀ (F : List (List (List Sg))) (r : List Sg), srV m D F r = ((wuL F r).filter fun x => reQ m x D).head?
 | [], r => by
  grind [srV, wuL]
 | f :: F, r => by
  show f.findSome? (fun x => srV m D F (r ++ x)) = ((f.flatMap fun x => wuL F (r ++ x)).filter _).head?;rw [List.filter_flatMap, List.head?_flatMap];congr 1; funext x; exact zqv m D F (r ++ x)
theorem zqw {m : Mn} {l : List Bt} (h : wcE m l = 0) {b : Bt} (Z : b ∈ l) : wcE m [b] = 0 := by
 grind [wcE, zkH]
def zyo {m : Mn} {l : List Bt} (Z : wcE m l = 0) (h : Hb) : fmL m l h = chV m l h := by
 grind [fmL, chV, List.map_congr_left, fmV, zqw]
theorem zqx {m : Mn} {l : List Bt} (Z : wcE m l = 0) (h : Hb) : wrO m l h = (wyL m l h).head? := by
 unfold wrO wyL; rw [zqv, zyo Z]
end
end Go.Rse
