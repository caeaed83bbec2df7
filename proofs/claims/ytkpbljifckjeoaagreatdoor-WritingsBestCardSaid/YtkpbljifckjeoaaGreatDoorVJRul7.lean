/-
  Walks: a run read by the rule.
-/
import Derived.Test.YtkpbljifckjeoaaGreatDoorVJRul5
import Derived.Lib.AppendZeros
set_option linter.unusedSimpArgs false
set_option linter.unusedVariables false
namespace Go.Rse
open Go Go.Proofs
attribute [local irreducible] Pur yw yy Ex X Fn Imp LeV LeB FnO It yz FnW FnOW FnP FnD
attribute [local irreducible] leE leC leI rdI rdE rdV ckD z7 twos prL itmV itmE
set_option maxHeartbeats 4000000 in
theorem zjM (m : Mn) (l : List Sg) (hl : l.length <= 1000) : Fn Tryz.prog 56 [mnA m, sgsA l] (.tup [rdgA (rdV m l), iv (rdE m l)]) := by
 have hR := zjF m l hl;have hil := zk5 (m := m) (l := l);have hLl := zk7 m (rdI m l);have hpl : (twos (prL m l).length).length <= 1000 := by rw [zdp]; have := ziR m l; omega
 have hdl : (z7 m l).length <= 4000000 := by have := zjE m l; have := zjP m l; omega
 refine Fn.go Tryz.func56 Tryz.ntmps56 (fun g w d => ?_);refine gq ?_;refine yb (zaO m l hl) ?_;refine gd ?_ ?_<;>intro hc1
 ·have hZ1 := zw1 hc1;obtain ⟨hE, hV⟩ := hZ1;apply yg;iterate 2 refine ya ?_
  refine Ex.mo ?_;refine yx ?_;refine X.ret ?_;refine RetQ.imp (Imp.of (ts := [(4, .ptr 4 0 0 0), (5, iv (ckD m l))]) (hs := [(4, .box [ye [], ye [], ye [], tmsA []] 97)]) ⟨⟨_, rfl, LeV.refl _⟩, ⟨_, rfl, LeV.refl _⟩, True.intro⟩ ⟨⟨_, rfl, LeB.box (.cons (LeV.nils _) (.cons (LeV.nils _) (.cons (LeV.nils _) (.cons (LeV.nils _) .nil))))⟩, True.intro⟩) ?_;refine yI ty97 ?_ ?_;all_goals (first | exact congrArg (fun z => AV.agg (rdgE z)) hV.symm | exact congrArg (fun z => AV.int .i64 z) hE.symm)
 have h0 : ckD m l = 0 := by omega
 rw [if_pos h0, h0] at hR;have hit := zqO h0
 have hI : Fn Tryz.prog 72 [mnA m, sgsA l, ye (z7 m l), ye (twos (prL m l).length)] (.tup [itsA (rdI m l), iv 0]) := by
  have h := ziK m l (z7 m l) (twos (prL m l).length) hl hpl;rw [hit] at h; unfold rdI; exact h
 refine gq ?_;refine yb hR ?_;refine gd ?_ ?_<;>intro hc2
 ·exact absurd rfl hc2
 refine gq ?_;refine yb hI ?_;refine gd ?_ ?_<;>intro hc3
 ·exact absurd rfl hc3
 refine gq ?_;refine yb (zhP m (rdI m l) (by omega)) ?_;refine gd ?_ ?_<;>intro hc4
 ·have hZ2 := zw2 h0 hc4;obtain ⟨hE, hV⟩ := hZ2;apply yg;iterate 2 refine ya ?_
  refine Ex.mo ?_;refine yx ?_;refine X.ret ?_;refine RetQ.imp (Imp.of (ts := [(4, .ptr 4 0 0 0), (5, iv (leE m (rdI m l)))]) (hs := [(4, .box [ye [], ye [], ye [], tmsA []] 97)]) ⟨⟨_, rfl, LeV.refl _⟩, ⟨_, rfl, LeV.refl _⟩, True.intro⟩ ⟨⟨_, rfl, LeB.box (.cons (LeV.nils _) (.cons (LeV.nils _) (.cons (LeV.nils _) (.cons (LeV.nils _) .nil))))⟩, True.intro⟩) ?_;refine yI ty97 ?_ ?_;all_goals (first | exact congrArg (fun z => AV.agg (rdgE z)) hV.symm | exact congrArg (fun z => AV.int .i64 z) hE.symm)
 have h2 : leE m (rdI m l) = 0 := by omega
 have hZ3 := zw3 h0 h2;obtain ⟨hE, hV0⟩ := hZ3;have hz0 : [] = ((leI m (rdI m l)).take 0).map (fun x => x.Dur) := by simp
 apply yr;apply yg;iterate 4 refine ya ?_
 refine zD ?_;refine Ex.mo ?_;apply Ex.nil;iterate 2 apply yn
 refine X.imp (st' := ⟨[(4, .ptr 4 0 0 0), (10, itsA (leI m (rdI m l))), (12, .ptr 12 0 0 0)], [(4, .box [.nils, .nils, .nils, .nils] 97), (12, .box [ye (z7 m l), ye (twos (prL m l).length), ye (leC m (rdI m l)), .own 40] 97), (40, .row tmE [] 25 2)]⟩) ((zhG tmE 25 2 12 40 3 97 _ [ye (z7 m l), ye (twos (prL m l).length), ye (leC m (rdI m l)), .own 40] rfl rfl rfl rfl).trans yd) ?_;refine gq ?_
 refine yZ (ι := Nat) (fun (n : Nat) => [(4, .ptr 4 0 0 0), (12, .ptr 12 0 0 0), (60, itsA (leI m (rdI m l))), (61, iv (leI m (rdI m l)).length), (62, iv (n : Int))]) (fun (n : Nat) => [(4, .box [.nils, .nils, .nils, .nils] 97), (12, .box [ye (z7 m l), ye (twos (prL m l).length), ye (leC m (rdI m l)), .own 40] 97), (40, .row tmE (((leI m (rdI m l)).take n).map (fun x => x.Dur)) 25 2)]) (fun (n : Nat) => n <= (leI m (rdI m l)).length) (fun (n : Nat) => (leI m (rdI m l)).length - n) 0 (fun n hk => ?_) (h0 := by
  exact yf)
 refine gd ?_ ?_<;>intro hc5
 ·obtain ⟨x, hx⟩ : ∃ x, (leI m (rdI m l))[n]? = some x := ⟨_, lgg (by omega)⟩;have hx2 : (leI m (rdI m l))[(n : Int).toNat]? = some x := by simpa using hx
  have hst := zrM hx;have htl : (((leI m (rdI m l)).take n).map (fun x => x.Dur)).length <= 1000 := by rw [List.length_map, List.length_take]; omega
  refine gq ?_;refine yL tmE [⟨_, _⟩] ?_;refine gq ?_;refine yD (n + 1) (hI := yf)
 ·have hn : n = (leI m (rdI m l)).length := by omega
  subst hn;have hV : rdV m l = ⟨z7 m l, twos (prL m l).length, leC m (rdI m l), ((leI m (rdI m l)).take (leI m (rdI m l)).length).map (fun x => x.Dur)⟩ := by rw [hV0, List.take_length]
  apply X.exit;apply yn;refine X.imp (st' := ⟨[(4, .ptr 4 0 0 0), (12, .ptr 12 0 0 0)], [(4, .box [.nils, .nils, .nils, .nils] 97), (12, .box [ye (z7 m l), ye (twos (prL m l).length), ye (leC m (rdI m l)), tmsA (((leI m (rdI m l)).take (leI m (rdI m l)).length).map (fun x => x.Dur))] 97)]⟩) ((Imp.freeze (k := 40) rfl).trans yd) ?_;refine gq ?_;refine yI ty97 ?_ ?_;all_goals (first | exact congrArg (fun z => AV.agg (rdgE z)) hV.symm | exact congrArg (fun z => AV.int .i64 z) hE.symm)
end Go.Rse
namespace Go.Rse
open Go Go.Proofs
attribute [local irreducible] Pur yw yy Ex X Fn Imp LeV LeB FnO It yz FnW FnOW FnP FnD
attribute [local irreducible] rdE rdV
theorem zfU (m : Mn) (l : List Sg) (hl : l.length <= 1000) : Fn Tryz.prog 34 [mnA m, sgsA l] (.tup [tmsA (rdV m l).Durs, iv (rdE m l)]) := by
 refine Fn.go Tryz.func34 Tryz.ntmps34 (fun g w d => ?_);refine gq ?_;refine yb (zjM m l hl) ?_;refine gq ?_;refine yj ?_ ?_;all_goals (first | (with_reducible rfl) | rfl)
theorem zpm {m : Mn} {l : List Sg} : (rdV m l).Durs.length <= l.length := by
 unfold rdV;split
 ·show ((leI m (rdI m l)).map _).length <= _;rw [List.length_map];exact Nat.le_trans (zk7 _ _) zk5
 ·simp
theorem ziV (m : Mn) (l : List Sg) (D : List Tm) (hl : l.length <= 1000) : Fn Tryz.prog 54 [mnA m, sgsA l, tmsA D] (.bool (decide (rdE m l = 0) && decide ((rdV m l).Durs = D))) := by
 have hr := zpm (m := m) (l := l);refine Fn.go Tryz.func54 Tryz.ntmps54 (fun g w d => ?_);refine gq ?_;refine yb (zfU m l hl) ?_;iterate 5 refine ya ?_
 apply yK;iterate 2 refine ya ?_
 refine ExF.at 2 ?_;refine gq ?_;refine ExF.cg (zaV (rdV m l).Durs D (by omega)) ?_;refine ym ?_;refine gq ?_;all_goals (first | rfl | (simp_all; done))
end Go.Rse
namespace Go.Rse
open Go Go.Proofs
def hbN (n : Int) : Hb := ⟨!decide (andI n 4 = 0), !decide (andI n 2 = 0), !decide (andI n 1 = 0)⟩
structure Wg where
 n : Int
 c : Int
 r : List Sg
instance : Inhabited Wg := ⟨⟨0, 0, []⟩⟩
def wgE : Wg -> List AV := fun x => [iv x.n, iv x.c, sgsA x.r]
abbrev wgA (x : Wg) : AV := .agg (wgE x)
def coN (l : List Sg) : Nat := (l.filter (·.Color)).length
theorem zt5 (l : List Sg) : (0 : Int) = ((coN (l.take 0) : Nat) : Int) := by unfold coN; rfl
theorem zt6 {l : List Sg} {k : Nat} {s : Sg} (h : l[k]? = some s) (hc : s.Color = true) : ((coN (l.take k) : Nat) : Int) + 1 = ((coN (l.take (k + 1)) : Nat) : Int) := by
 unfold coN; rw [List.take_add_one, h]; simp [hc]
theorem zt7 {l : List Sg} {k : Nat} {s : Sg} (h : l[k]? = some s) (hc : ¬ s.Color = true) : coN (l.take k) = coN (l.take (k + 1)) := by
 unfold coN; rw [List.take_add_one, h]; simp [hc]
theorem zr8 (l : List Sg) (k : Nat) : coN (l.take k) <= l.length := by
 unfold coN; have := List.length_filter_le (·.Color) (l.take k); rw [List.length_take] at this; omega
def wgV (r : List Sg) : Wg := ⟨(r.length : Int), ((coN r : Nat) : Int), r⟩
def zbV (D : List Tm) (R : List Bool) : List Bt := List.zipWith Bt.mk D R
theorem zt8 (D : List Tm) : [] = zbV D [] := by unfold zbV; simp
theorem zqZ : ∀ {R : List Bool} {D : List Tm} {t : Tm} {r : Bool}, D[R.length]? = some t -> zbV D R ++ [⟨t, r⟩] = zbV D (R ++ [r])
 | [], D, t, r, h => by
  cases D with
  | nil => simp at h
  | cons x D => simp at h; subst h; simp [zbV]
 | y :: R, D, t, r, h => by
  cases D with
  | nil => simp at h
  | cons x D =>
   have := zqZ (R := R) (D := D) (t := t) (r := r) (by simpa using h);unfold zbV at *
   simp only [List.zipWith_cons_cons, List.cons_append, this]
theorem zpn (D : List Tm) (R : List Bool) (h : R.length <= D.length) : (zbV D R).length = R.length := by unfold zbV; rw [List.length_zipWith]; omega
theorem zr9 (l : List Sg) (k : Nat) : (rsL (l.take k)).length <= (rsL l).length := by
 have : l.take k ++ l.drop k = l := List.take_append_drop k l;rw [← this];unfold rsL; simp [List.take_append_drop];have h2 : (l.filter fun s => !decide (s.Kind = 3)) = ((l.take k).filter fun s => !decide (s.Kind = 3)) ++ ((l.drop k).filter fun s => !decide (s.Kind = 3)) := by rw [← List.filter_append, List.take_append_drop]
 rw [h2, List.length_append]; omega
theorem znx {m : Mn} : ∀ (L : List Int) (l : List Ite) (C : List Int), (lvF m L l C).2.2 = 0 -> (lvF m L l C).2.1.length = l.length
 | [], l, C, _ => rfl
 | k :: r, l, C, h0 => by
  unfold lvF at h0 ⊢;split at h0
  ·rename_i h;rw [if_pos h];have := znx (m := m) r (apV m k l (cuV m k l)) (C ++ cuV m k l) h0;rw [ziJ (zle h)] at this; exact this
  ·rename_i h; exact absurd h0 h
theorem zsa {m : Mn} {l : List Ite} (h : leE m l = 0) : (leI m l).length = l.length := by
 unfold leI;rw [if_pos h];unfold leE at h;split at h
 ·split at h
  ·exact znx _ _ _ h
  ·rename_i h2; exact absurd h h2
 ·rename_i h2; exact absurd h h2
theorem ziW (l : List Sg) : ∀ k, ntN l k = (rsL (l.take k)).length
 | 0 => by unfold rsL; rfl
 | k + 1 => by
  unfold ntN;cases h : l[k]? with
  | none =>
   have h1 := List.getElem?_eq_none_iff.1 h;rw [List.take_of_length_le (by omega : l.length <= k + 1), ziW l k, List.take_of_length_le h1]
  | some s =>
   by_cases h3 : s.Kind = 3
   ·show (if s.Kind = 3 then ntN l k else ntN l k + 1) = _;rw [if_pos h3, ziW l k, zlB h h3]
   ·show (if s.Kind = 3 then ntN l k else ntN l k + 1) = _;rw [if_neg h3, ziW l k, ← znW h h3, List.length_append]; rfl
theorem zsb {m : Mn} {l : List Sg} (h : rdE m l = 0) : (rdV m l).Durs.length = (rsL l).length := by
 have hc : ckD m l = 0 := by
  apply Classical.byContradiction; intro hn; unfold rdE at h; rw [if_neg hn] at h; exact hn h
 have he : leE m (rdI m l) = 0 := by unfold rdE at h; rw [if_pos hc] at h; exact h
 unfold rdV;rw [if_pos h];show ((leI m (rdI m l)).map _).length = _;rw [List.length_map, zsa he];unfold rdI;rw [zmW (zqO hc), ziD, ziW, List.take_length]
def bsV (m : Mn) (l : List Sg) : List Bt := if rdE m l = 0 then zbV (rdV m l).Durs (rsL l) else []
attribute [local irreducible] Pur yw yy Ex X Fn Imp LeV LeB FnO It yz FnW FnOW FnP FnD
attribute [local irreducible] wcE btF ckT ckM ckD frV wcnE wcnV cnP durB rdE rdV rsL coN zbV andI
theorem zae (n : Int) : Fn Tryz.prog 48 [iv n] (hbA (hbN n)) := by
 refine Fn.go Tryz.func48 Tryz.ntmps48 (fun g w d => ?_);apply yg;refine zD ?_;apply yK;refine ya ?_;refine ya (hs := zhD rfl rfl) ?_;iterate 2 refine ya ?_
 refine ya (hs := zhD rfl rfl) ?_;iterate 2 refine ya ?_
 refine ya (hs := zhD rfl rfl) ?_;refine gq ?_;refine RetQ.ret (.one (.cellA rfl rfl rfl rfl ty35 (LeV.eq ?_)));all_goals (first | rfl | (simp_all; done))
theorem zgc (l : List Bt) (hl : l.length <= 4000000000) : Fn Tryz.prog 65 [btsA l] (tmsA (durB l)) := by
 have hz0 : [] = durB (l.take 0) := by unfold durB; rfl
 refine Fn.go Tryz.func65 Tryz.ntmps65 (fun g w d => ?_);apply yg;refine ya ?_;apply yK;refine yx ?_;iterate 2 apply yn
 refine X.imp (yP tmE 25 2 3 30 rfl rfl) ?_;refine gq ?_
 refine yZ (ι := Nat) (fun (k : Nat) => [(6, btsA l), (7, iv (l.length : Int)), (8, iv (k : Int)), (3, .own 30)]) (fun (k : Nat) => [(30, .row tmE (durB (l.take k)) 25 2)]) (fun (k : Nat) => k <= l.length) (fun (k : Nat) => l.length - k) 0 (fun k hk => ?_) (h0 := by
  exact yf)
 refine gd ?_ ?_<;>intro hc1
 ·obtain ⟨b, hb⟩ : ∃ b, l[k]? = some b := ⟨_, lgg (by omega)⟩;have hb2 : l[(k : Int).toNat]? = some b := by simpa using hb
  have hst := zsl hb;have hlt : (durB (l.take k)).length <= l.length := by rw [znR, List.length_take]; omega
  refine gq ?_;refine yL tmE [b.Dur] ?_;refine gq ?_;refine yD (k + 1) (hI := yf)
 ·obtain rfl : k = l.length := by omega
  have hV : durB (l.take l.length) = durB l := by rw [List.take_length]
  apply X.exit;apply yg;refine zq ?_;refine X.ret ?_;refine RetQ.imp (Imp.freeze (k := 30) rfl) ?_;refine gq ?_;all_goals (exact congrArg (fun z => tmsA z) hV)
set_option maxHeartbeats 1000000 in
theorem zfA (l : List Sg) (hl : l.length <= 4000000000) : Fn Tryz.prog 37 [sgsA l] (wgA (wgV l)) := by
 have hz0 : [iv (l.length : Int), iv 0, sgsA l] = [iv (l.length : Int), iv ((coN (l.take 0) : Nat) : Int), sgsA l] := by rw [← zt5 l]
 refine Fn.go Tryz.func37 Tryz.ntmps37 (fun g w d => ?_);apply yg;refine zD ?_;apply yK;iterate 4 refine ya ?_
 refine zD ?_;refine Ex.mo ?_;apply Ex.nil;apply yn;apply yg;refine zk ?_;apply X.block;refine X.imp (st' := ⟨[(2, .ptr 2 0 0 0), (3, .ptr 3 0 0 0), (10, sgsA l), (11, iv (l.length : Int)), (12, iv 0)], [(2, .box [iv 0, iv 0, .nils] 80), (3, .box [iv (l.length : Int), iv 0, sgsA l] 80)]⟩) yf ?_
 refine yZ (ι := Nat) (fun (k : Nat) => [(2, .ptr 2 0 0 0), (3, .ptr 3 0 0 0), (10, sgsA l), (11, iv (l.length : Int)), (12, iv (k : Int))]) (fun (k : Nat) => [(2, .box [iv 0, iv 0, .nils] 80), (3, .box [iv (l.length : Int), iv ((coN (l.take k) : Nat) : Int), sgsA l] 80)]) (fun (k : Nat) => k <= l.length) (fun (k : Nat) => l.length - k) 0 (fun k hk => ?_) (h0 := by
  exact yf)
 refine gd ?_ ?_<;>intro hc1
 ·obtain ⟨s, hs⟩ : ∃ s, l[k]? = some s := ⟨_, lgg (by omega)⟩;have hs2 : l[(k : Int).toNat]? = some s := by simpa using hs
  have hle := zr8 l k;refine gd ?_ ?_<;>intro hc2
  ·have hst : [iv (l.length : Int), iv (((coN (l.take k) : Nat) : Int) + 1), sgsA l] = [iv (l.length : Int), iv ((coN (l.take (k + 1)) : Nat) : Int), sgsA l] := by rw [← zt6 hs hc2]
   refine gq ?_;refine yD (k + 1) (hI := yf)
  ·have hst : [iv (l.length : Int), iv ((coN (l.take k) : Nat) : Int), sgsA l] = [iv (l.length : Int), iv ((coN (l.take (k + 1)) : Nat) : Int), sgsA l] := by rw [zt7 hs (by simpa using hc2)]
   refine gq ?_;refine yD (k + 1) (hI := yf)
 ·obtain rfl : k = l.length := by omega
  have hV : coN (l.take l.length) = coN l := by rw [List.take_length]
  refine gq ?_;refine RetQ.ret (.one (.cellA rfl rfl rfl rfl ty80 (LeV.eq ?_)));all_goals (first | (unfold wgV; rw [← hV]; rfl) | rfl)
theorem zaY (a b : List Bt) (hl : a.length <= 4000000000) : Fn Tryz.prog 44 [btsA a, btsA b] (.bool (decide (a = b))) := by
 refine Fn.go Tryz.func44 Tryz.ntmps44 (fun g w d => ?_);refine gd ?_ ?_<;>intro hc1
 ·have hD : decide (a = b) = false := by rw [decide_eq_false_iff_not]; intro h; subst h; exact hc1 rfl
  refine gq ?_;all_goals (rw [hD])
 have hlen : a.length = b.length := by omega
 refine gq ?_
 refine yZ (ι := Nat) (fun (k : Nat) => [(0, btsA a), (1, btsA b), (12, iv a.length), (13, iv (k : Int))]) (fun (k : Nat) => []) (fun (k : Nat) => k <= a.length /\ a.take k = b.take k) (fun (k : Nat) => a.length - k) 0 (fun k hk => ?_) (hJ := by
  exact ⟨by omega, by simp⟩)
 obtain ⟨hk1, hk2⟩ := hk;refine gd ?_ ?_<;>intro hc2
 ·obtain ⟨x, hx⟩ : ∃ x, a[k]? = some x := ⟨_, lgg (by omega)⟩;have hx2 : a[(k : Int).toNat]? = some x := by simpa using hx
  obtain ⟨y, hy⟩ : ∃ y, b[k]? = some y := ⟨_, lgg (by omega)⟩;have hy2 : b[(k : Int).toNat]? = some y := by simpa using hy
  refine gq ?_;refine zn [16,17,18,19,20,21,22,23,24] [0,0,3,7,0,0,48,112,255] mo ?_;iterate 8 refine yc ?_
  refine yc ?_ (hs := by exact zca (zlq _ _) inferInstance TyK.h rfl rfl rfl rfl rfl);refine yM ?_;refine gd ?_ ?_<;>intro hc3
  ·have hD : decide (a = b) = false := by rw [decide_eq_false_iff_not]; intro h; subst h; rw [hx] at hy; injection hy with hy; exact hc3 hy
   refine gq ?_;all_goals (rw [hD])
  refine gq ?_
  refine yD (k + 1) (hJ := by
   exact ⟨by omega, by rw [← zbO hx, ← zbO hy, hk2, hc3]⟩)
 ·have hD : decide (a = b) = true := by
   have h1 : k = a.length := by omega
   rw [decide_eq_true_iff]; subst h1; rw [List.take_length, hlen, List.take_length] at hk2; exact hk2
  refine gq ?_;all_goals (rw [hD])
set_option maxHeartbeats 1000000 in
theorem zaq (m : Mn) (l : List Sg) (hl : l.length <= 1000) : Fn Tryz.prog 19 [mnA m, sgsA l] (.tup [btsA (bsV m l), iv (rdE m l)]) := by
 have hz0 : [] = zbV (rdV m l).Durs (rsL (l.take 0)) := by unfold rsL; exact zt8 _
 refine Fn.go Tryz.func19 Tryz.ntmps19 (fun g w d => ?_);refine gq ?_;refine yb (zfU m l hl) ?_;refine gd ?_ ?_<;>intro hc1
 ·have hV : bsV m l = [] := by unfold bsV; rw [if_neg hc1]
  apply yg;refine zk ?_;refine X.ret ?_;refine RetQ.imp (yd (ts := [(4, btsA []), (5, iv (rdE m l))]) (hs := [])) ?_;refine yj ?_ ?_;all_goals (first | (rw [hV]; done) | exact congrArg (fun z => btsA z) hV | exact congrArg (AV.int .i64) h0.symm | rfl)
 have h0 : rdE m l = 0 := by omega
 have hV0 : bsV m l = zbV (rdV m l).Durs (rsL l) := by unfold bsV; rw [if_pos h0]
 have hdl := zsb h0;apply yr;apply yg;refine yx ?_;iterate 2 apply yn
 refine X.imp (yP btE 76 3 8 30 rfl rfl) ?_;refine gq ?_
 refine yZ (ι := Nat) (fun (k : Nat) => [(2, .ptr 2 0 0 0), (6, tmsA (rdV m l).Durs), (8, .own 30), (20, sgsA l), (21, iv (l.length : Int)), (22, iv (k : Int))]) (fun (k : Nat) => [(2, .box (mnE m) 32), (30, .row btE (zbV (rdV m l).Durs (rsL (l.take k))) 76 3)]) (fun (k : Nat) => k <= l.length) (fun (k : Nat) => l.length - k) 0 (fun k hk => ?_) (hJ := by
  exact Nat.zero_le _) (h0 := by
  exact yf)
 refine gd ?_ ?_<;>intro hc2
 ·obtain ⟨s, hs⟩ : ∃ s, l[k]? = some s := ⟨_, lgg (by omega)⟩;have hs2 : l[(k : Int).toNat]? = some s := by simpa using hs
  refine gd ?_ ?_<;>intro hc3
  ·have hst := znW hs (by simpa using hc3);have htk := zr9 l (k + 1);rw [← hst, List.length_append] at htk;have hzl := zpn (rdV m l).Durs (rsL (l.take k)) (by simp at htk; omega);obtain ⟨t, ht⟩ : ∃ t, (rdV m l).Durs[(rsL (l.take k)).length]? = some t := ⟨_, lgg (by simp at htk; omega)⟩;have hzs := zqZ (r := decide (s.Kind = 2)) ht;rw [hst] at hzs;have ht2 : (rdV m l).Durs[(((zbV (rdV m l).Durs (rsL (l.take k))).length : Nat) : Int).toNat]? = some t := by rw [hzl]; simpa using ht
   have hzb : (rsL (l.take k)).length <= 1000 := Nat.le_trans (zlC _) (by rw [List.length_take]; omega);refine zn [29,30,31,32,33,34,35,36,37,38,39] [0,0,0,4,14,30,0,64,192,510,1022,2047,4095] mo ?_;(iterate 10 refine yc ?_);refine ChM.step rfl rfl rfl (yG (k := 39) (enc := btE) (l := [⟨t, decide (s.Kind = 2)⟩]) sl22 ty76 ze76 (by decide) rfl rfl rfl rfl (by decide) (by decide) (fun _ => rfl) rfl) rfl ?_;refine yM ?_;refine gq ?_;refine yD (k + 1) (hI := yf)
  ·have hst := congrArg (zbV (rdV m l).Durs) (zlB hs (by omega));refine gq ?_;refine yD (k + 1) (hI := yf)
 ·obtain rfl : k = l.length := by omega
  have hV : zbV (rdV m l).Durs (rsL (l.take l.length)) = bsV m l := by rw [List.take_length, hV0]
  apply X.exit;apply yg;refine zk ?_;refine X.ret ?_;refine RetQ.imp (Imp.freeze (k := 30) rfl) ?_;refine yj ?_ ?_;all_goals (first | (rw [hV]; done) | exact congrArg (fun z => btsA z) hV | exact congrArg (AV.int .i64) h0.symm | rfl)
end Go.Rse
namespace Go.Rse
open Go Go.RowKit
section
variable {P : Program} {C : Ctx} {st : St} {ty : TypeId} {Q : Exit -> St -> Prop}
end
end Go.Rse
namespace Go.Rse
open Go Go.RowKit
section
variable {P : Program} {C : Ctx} {st : St} {ty : TypeId} {Q : Exit -> St -> Prop}
theorem zpo {T E : TypeId} {w : World} (hu : P.underlying T = some (.slice E)) (A : Option Addr) (n c : Nat) : (Op.equal T (.slice A n c) (.slice none 0 0)).run P w = .ok A.isNone w := by
 unfold Op.equal;rw [show Op.maxDepth = 9999 + 1 from rfl];unfold Op.equalIn;cases A <;> simp [run_underlying hu]
theorem zsc {ops : Array Oper} {rest : List Oper} {d : Nat} {pos : String} {af : Array Edge} {α : Type} {enc : α -> List AV} {l : List α} {T E : TypeId} {x : Operand} {yt : TypeId} (h : ∀ b : Bool, (l ≠ [] -> b = false) -> Ex P C ops rest ⟨(d, .bool b) :: st.t, st.h⟩ Q)
 (hu : P.underlying T = some (.slice E)) (hx : ev st x = some (.sl enc l) := by exact rfl) (hd : dOk C.n (some d) = true := by exact rfl) :
 Ex P C ops ({ dst := some d, op := .binOp .eql T x (.const (.slice none 0 0)) yt, type := ty, pos := pos, after := af, guard := none } :: rest) st Q := fun g a w hr => by
 obtain ⟨A, b, o, s, c, vs, e, hA, -⟩ := zdy (yu hr hx);have e0 : a.eval (.const (.slice none 0 0)) = .slice none 0 0 := rfl;have hg : (eqGuard .eql T x (.const (.slice none 0 0)) (.slice A l.length c) (.slice none 0 0)).run P w = .ok () w := by unfold eqGuard; simp
 have h1 := zpo (P := P) (w := w) hu A l.length c;refine wpListIn_plain rfl fun K' hK => zH ?_
 simp only [wp1, execOp, e, e0, Sem.run_bind, hg, Result.andThen_ok, binOp, h1, Sem.run_pure, zbC];refine hK _ _ ?_;exact h A.isNone (fun hne => by rw [hA hne]; rfl) _ _ _ (hr.addSt (nb := none) (d := some d) (x := .bool A.isNone) (v := .bool A.isNone) (Add.refl _ g w) hd rfl (.bool _) hr.sat.im hr.sat.ob (fun _ _ h => by cases h))
end
end Go.Rse
namespace Go.Rse
open Go Go.RowKit
section
variable {P : Program} {C : Ctx} {st : St} {ty : TypeId} {Q : Exit -> St -> Prop}
theorem zgT {x : Operand} {t E : TypeId} (hx : ev st x = some .nils) (h : slOk P t E = true) :
 Pur P C (.call { callee := .builtin .cap, args := #[x], argTypes := #[t] }) ty st (.int .i64 0) := fun g a w dst pos af gd hr =>
 ⟨.int .i64 0, by
  have e := zbp (yu hr hx);simp [execOp, resolve, invoke, builtin, Builtin.cap_, e, run_underlying (zd h)]; rfl, .int _ _⟩
theorem zjN {x y : Operand} {t E : TypeId} {s : Nat} {ag : Bool} (hx : ev st x = some .nils) (hy : ev st y = some (.int .i64 0)) (h : slOk P t E = true) (hE : tyOk P E ag s = true) :
 Pur P C (.slice t x none (some y) none) ty st .nils := fun g a w dst pos af gd hr => by
 have ex := zbp (yu hr hx);have ey := zb (yu hr hy);refine ⟨.slice none 0 0, ?_, .nils⟩
 have : (Instr.sliceBounds true 0 0 none (some (.int .i64 0)) none).run P w = .ok (0, 0, 0) w := by
  simp [Instr.sliceBounds, Instr.sliceBound, asIntOf]
 simp [execOp, Instr.sliceAt, Instr.slice, run_underlying (zd h), ex, ey, this, y7 hE]
def anyE (s : Nat) : Unit -> List AV := fun _ => List.replicate s .any
theorem zpp {t tn E : TypeId} {z : Value} {s bytes n k : Nat} {kn : IntKind} {x y : Operand} {p : Int} (ht : slOk P t E = true) (htn : P.underlying tn = some (.int kn)) (hi : zM P E z s bytes) (hs : 0 < s) (hby : bytes <= 1024)
 (hx : ev st x = some .nils) (hy : ev st y = some (.int .i64 p)) (hp : p = (n : Int)) (h0 : 0 < n) (hn : n <= 4000000000) : yw P C (.call { callee := .builtin .append, args := #[x, y], argTypes := #[t, tn] }) ty st (.own k) (some (k, .row (anyE s) (List.replicate n ()) E s)) :=
 zV fun g a w dst pos af gd hr => by
  obtain ⟨i, hi1, hi2, hi3, hi4, hi5⟩ := hi;subst hp;have hu := zd ht;have ex := zbp (yu hr hx);have ey := zb (yu hr hy)
  have hbb : n * bytes <= 140737488355328 := by
   have : n * bytes <= 4000000000 * 1024 := Nat.mul_le_mul hn hby;omega
  have hmx : n <= maxLen := by simp only [maxLen]; omega
  have hge := grownCap_ge w n 0 E;have hcm := grownCap_le_maxLen w n 0 E hmx;have hr0 := Go.Lib.run_append_nil_zeros (P := P) w t tn ty E i z .i64 kn hu htn hi1 hi2 n h0 (by omega) (by omega) (by rw [hi4]; omega);have hg : Grow w (w.drew.alloc (.cells (Builtin.zeroCells z.cells n ++ Builtin.zeroCells z.cells (grownCap w n 0 E - n)) E)) := (Grow.drew w).trans (Grow.alloc _ _);have hsl : ∀ (i : Nat) x, (List.replicate n ())[i]? = some x -> (anyE s x).length = s := fun i x _ => by simp [anyE]
  refine ⟨.slice (some ⟨w.heap.size, 0, none⟩) n (grownCap w n 0 E), _, g.nw C.d w.heap.size k (.slice (some ⟨w.heap.size, 0, none⟩) n (grownCap w n 0 E)), ?_, Add.nw hg C.d k _, .own k _ _ _ (by simp [Gh.nw]), ImOB.nw ⟨hr.sat.im, hr.sat.ob⟩ hg (by simp) C.d k _, fun k' B hB => ?_⟩
  ·simp only [execOp, resolve, invoke, builtin, Sem.run_bind, Sem.run_pure, Result.andThen_ok, List.map_toArray, List.map_cons, List.map_nil, ex, ey, hr0]
  ·injection hB with hB; injection hB with e1 e2; subst e1; subst e2;refine ⟨(Builtin.zeroCells z.cells n).toList, ?_, hsl, fun j x q c v hx hc hv => ?_, fun b hb => ?_⟩
   ·simp only [Gh.nw, if_true, List.length_replicate];refine ⟨by rw [Array.length_toList, size_zeroCells, hi5], .inr ⟨w.heap.size, grownCap w n 0 E, _, rfl, Nat.zero_le _, heap_alloc_new w.drew _, hge, hcm, ?_, ?_⟩⟩
    ·simp only [Array.size_append, size_zeroCells, hi5, ← Nat.add_mul];congr 1;omega
    ·rw [Array.toList_append];have : n * s = (Builtin.zeroCells z.cells n).toList.length := by rw [Array.length_toList, size_zeroCells, hi5]
     rw [this];exact List.take_left
   ·have : c = .any := by
     unfold anyE at hc;rw [List.getElem?_replicate] at hc;split at hc
     ·injection hc with hc; exact hc.symm
     ·simp at hc
    subst this; exact .any _
   ·simp only [Gh.nw, if_true, yV] at hb;injection hb with hb; subst hb;exact ⟨by simp [Gh.nw], .inl hr.ext.size⟩
end
theorem zny {C : Ctx} {st : St} {α β : Type} (enc' : β -> List AV) (k E s : Nat) {enc : α -> List AV} {l : List α} (h : lk st.h k = some (.row enc l E s)) (hl : l = []) : Imp C st { t := st.t, h := (k, .row enc' [] E s) :: st.h } := fun g a w hr => by
 subst hl;obtain ⟨xs, h1, h2, h3, h4⟩ := hr.sat.blk k _ h;exact ⟨_, hr.withBlk (k := k) (B := .row enc' [] E s) ⟨xs, h1, fun i x h => by simp at h, fun i x j c v h => by simp at h, h4⟩⟩
end Go.Rse
namespace Go.Rse
open Go Go.Proofs
def flK (L : List (List Sg)) (k : Nat) : List Sg := (L.take k).flatten
theorem zq0 {L : List (List Sg)} {k : Nat} {s : List Sg} (h : L[k]? = some s) : flK L k ++ s = flK L (k + 1) := by
 unfold flK; rw [List.take_add_one, h]; simp
theorem zt9 (L : List (List Sg)) : [] = flK L 0 := rfl
theorem zua (L : List (List Sg)) : flK L L.length = L.flatten := by unfold flK; rw [List.take_length]
theorem zky (L : List (List Sg)) (k : Nat) : (flK L k).length <= L.flatten.length := by
 have : L.flatten = (L.take k).flatten ++ (L.drop k).flatten := by rw [← List.flatten_append, List.take_append_drop]
 unfold flK; rw [this, List.length_append]; omega
attribute [local irreducible] Pur yw yy Ex X Fn Imp LeV LeB FnO It yz FnW FnOW FnP FnD
attribute [local irreducible] flK
theorem za9 (n : Int) (h0 : 0 <= n) (hn : n <= 1000000) : FnO Tryz.prog 115 [.nils, iv n] [] [] (.own 5) [(5, .row sgE [] 41 17)] := by
 refine FnO.intro (ts := [(0, .nils), (1, iv n)]) (rv := [.tmp 4]) (n := 27) (cs := []) (by kernel_rfl) Tryz.func115 rfl Tryz.ntmps115 rfl rfl (by simp) rfl rfl rfl rfl (fun g w d vs => ?_);refine gd ?_ ?_<;>intro hc1
 ·omega
 apply yr;apply yn;apply yg;iterate 2 refine ya ?_
 refine ya (hs := zgT rfl SlK.h) ?_;refine gd ?_ ?_<;>intro hc2
 ·apply yo;iterate 2 refine ya ?_
  refine ya (hs := zgT rfl SlK.h) ?_;refine ya (hs := zjN rfl rfl SlK.h TyK.h) ?_;refine gq ?_;refine Ex.stepA (zpp (k := 5) (n := n.toNat) SlK.h Tryz.underlying3 TiK.h (by decide) (by decide) rfl rfl (by omega) (by omega) (by omega)) rfl rfl ?_;refine gq ?_;refine z8 (zop rfl rfl rfl SlK.h TyK.h (by omega) (by simp; omega) rfl) ?_;refine ya ?_;apply yK;refine zq ?_;refine X.ret ?_;refine zlX.imp (zny (enc := anyE 17) (l := (List.replicate n.toNat ()).take (0 : Int).toNat) sgE 5 41 17 (by exact rfl) (by simp)) ?_;refine zlX.mk (ts := [(4, .own 5)]) (.inr rfl) (yd) (.one (.tmp rfl (LeV.eq rfl)))
 ·apply yr;apply yg;refine zq ?_;refine X.ret ?_;refine zlX.imp (yP sgE 41 17 4 5 rfl rfl) ?_;refine zlX.mk (ts := [(4, .own 5)]) (.inr rfl) (yd) (.one (.tmp rfl (LeV.eq rfl)))
set_option maxHeartbeats 1000000 in
theorem zaS (L : List (List Sg)) (hL : L.length <= 1000000) (hf : L.flatten.length <= 1000000) : Fn Tryz.prog 85 [zL L] (sgsA L.flatten) := by
 have hz0 : [] = flK L 0 := zt9 L;have hz1 : (0 : Int) = ((flK L 0).length : Int) := by rw [← hz0]; rfl
 refine Fn.go Tryz.func85 Tryz.ntmps85 (fun g w d => ?_);refine gq ?_
 refine yZ (ι := Nat) (fun (k : Nat) => [(0, zL L), (2, .nils), (3, iv ((flK L k).length : Int)), (9, zL L), (10, iv (L.length : Int)), (11, iv (k : Int))]) (fun (k : Nat) => []) (fun (k : Nat) => k <= L.length) (fun (k : Nat) => L.length - k) 0 (fun k hk => ?_) (h0 := by
  exact yf)
 refine gd ?_ ?_<;>intro hc1
 ·obtain ⟨s, hs⟩ : ∃ s, L[k]? = some s := ⟨_, lgg (by omega)⟩;have hs2 : L[(k : Int).toNat]? = some s := by simpa using hs
  have hst := zq0 hs;have hle := zky L (k + 1);have hsl : ((flK L (k + 1)).length : Int) = ((flK L k).length : Int) + (s.length : Int) := by rw [← hst]; simp
  refine gd ?_ ?_<;>intro hc2
  ·omega
  refine gq ?_;refine yD (k + 1) (hI := yf)
 ·obtain rfl : k = L.length := by omega
  refine gq ?_;refine zaC [(5, 30)] (za9 ((flK L L.length).length : Int) (by omega) (by have := zky L L.length; omega)) ?_;refine gq ?_
  refine yZ (ι := Nat) (fun (k : Nat) => [(2, .nils), (6, .own 30), (25, zL L), (26, iv (L.length : Int)), (27, iv (k : Int))]) (fun (k : Nat) => [(30, .row sgE (flK L k) 41 17)]) (fun (k : Nat) => k <= L.length) (fun (k : Nat) => L.length - k) 0 (fun k hk => ?_) (hJ := by
   exact Nat.zero_le _) (h0 := by
   exact yf)
  refine gd ?_ ?_<;>intro hc3
  ·obtain ⟨s, hs⟩ : ∃ s, L[k]? = some s := ⟨_, lgg (by omega)⟩;have hs2 : L[(k : Int).toNat]? = some s := by simpa using hs
   have hst := zq0 hs;have hle := zky L (k + 1);have hsl : ((flK L (k + 1)).length : Int) = ((flK L k).length : Int) + (s.length : Int) := by rw [← hst]; simp
   apply yr;apply yn;apply X.block;apply yg;iterate 3 refine ya ?_
   apply Ex.nil;apply yo;iterate 2 refine ya ?_
   refine z8 (zbr (l := flK L k) (l2 := s) rfl rfl rfl SlK.h TiK.h (by decide) (by decide) (fun _ => rfl) (fun _ => rfl) (by omega) rfl) ?_;refine gq ?_;refine yD (k + 1) (hI := yf)
  ·obtain rfl : k = L.length := by omega
   have hV := zua L;apply X.exit;apply yg;refine zq ?_;refine X.ret ?_;refine RetQ.imp (Imp.freeze (k := 30) rfl) ?_;refine gq ?_;all_goals (first | exact congrArg (fun z => sgsA z) hV | rfl)
end Go.Rse
