/-
  Walks: which choices are possible at a level (the passage through its segments is only read).
  Walks: which choices are allowed at a level (the passage through its segments is only read).
  Walks: the passage through the segments of a level: its beginning, a zaH.
  Walks: choices made, one after the other; Allowed and Apply.
  Walks: choices made, one after the other; Allowed and Apply.
  Walks: Allowed and Apply of a level.
-/
import Derived.Test.YtfiiobachmglpaaGreatDoorFLvlA
import Derived.Test.YtfiiobachmglpaaGreatDoorFLevA
import Derived.Test.YtfiiobachmglpaaGreatDoorFLogC
set_option linter.unusedSimpArgs false
set_option linter.unusedVariables false
namespace Go.Rse
open Go Go.Proofs
attribute [local irreducible] Pur yK yM Ex X Fn Imp LeV LeB FnO It yW FnW FnOW
theorem zj5 (d : Tm) : ∀ (L : List Tm) (t : Tm), smF t (L ++ [d]) = smF t L ++ [addV (sumA t L) d]
 | [], t => rfl
 | x :: r, t => by
  show addV t x :: smF (addV t x) (r ++ [d]) = _;rw [zj5 d r]; rfl
theorem ziu (d : Tm) : ∀ (L : List Tm) (t : Tm), sumA t (L ++ [d]) = addV (sumA t L) d
 | [], t => rfl
 | x :: r, t => by
  show sumA (addV t x) (r ++ [d]) = _;rw [ziu d r]; rfl
theorem zjc : ∀ (L : List Tm) (t : Tm), (smF t L).length = L.length
 | [], t => rfl
 | x :: r, t => by simp only [smF, List.length_cons, zjc r]
def fsP (l : List Ite) (n : Nat) : List Tm := smF ⟨0, 1⟩ ((drL l).take n)
def fsA (l : List Ite) (n : Nat) : Tm := sumA ⟨0, 1⟩ ((drL l).take n)
theorem zsz (l : List Ite) : [] = fsP l 0 := by unfold fsP; rw [List.take_zero]; rfl
theorem zlI (l : List Ite) : [iv 0, iv 1] = tmE (fsA l 0) := by unfold fsA; rw [List.take_zero]; rfl
theorem znB {l : List Ite} {n : Nat} {x : Ite} (h : l[n]? = some x) : tmE (addV (fsA l n) x.Dur) = tmE (fsA l (n + 1)) /\ fsP l n ++ [addV (fsA l n) x.Dur] = fsP l (n + 1) /\ (fsP l n).length <= n := by
 have hd : (drL l)[n]? = some x.Dur := by unfold drL; rw [List.getElem?_map, h]; rfl
 have ht : (drL l).take (n + 1) = (drL l).take n ++ [x.Dur] := by rw [List.take_add_one, hd]; rfl
 have e1 : fsA l (n + 1) = addV (fsA l n) x.Dur := by unfold fsA; rw [ht, ziu]
 refine ⟨by rw [e1], ?_, ?_⟩
 ·unfold fsP fsA; rw [ht, zj5]
 ·unfold fsP; rw [zjc, List.length_take]; omega
theorem zoJ (l : List Ite) : fsP l l.length = fsL l := by
 unfold fsP fsL; rw [List.take_of_length_le (by unfold drL; simp)]
theorem zgS (l : List Ite) : (fsL l).length = l.length := by unfold fsL; rw [zjc]; unfold drL; simp
def laP (a : Tm) (L : List Tm) (n : Nat) : List Tm := a :: (((L.take n).filter fun t => decide (subE a t = 0)).map fun t => subV a t)
theorem zsA (a : Tm) (L : List Tm) : [a] = laP a L 0 := by unfold laP; rw [List.take_zero]; rfl
theorem zsB {a : Tm} {L : List Tm} {n : Nat} {t : Tm} (h : L[n]? = some t) : (subE a t = 0 -> laP a L n ++ [subV a t] = laP a L (n + 1)) /\ (¬ subE a t = 0 -> laP a L n = laP a L (n + 1)) /\ (laP a L n).length <= n + 1 := by
 unfold laP;have ht : L.take (n + 1) = L.take n ++ [t] := by rw [List.take_add_one, h]; rfl
 refine ⟨fun h0 => ?_, fun h0 => ?_, ?_⟩
 ·rw [ht, List.filter_append]; simp [h0]
 ·rw [ht, List.filter_append]; simp [h0]
 ·simp only [List.length_cons, List.length_map];have := List.length_filter_le (fun t => decide (subE a t = 0)) (L.take n);rw [List.length_take] at this; omega
theorem zoK {l : List Ite} (h : (fsL l).length = 0) : [] = lasL l := by
 have : fsL l = [] := List.eq_nil_of_length_eq_zero h;unfold lasL; rw [this]; rfl
theorem zoL {l : List Ite} {a : Tm} (h : (fsL l)[(fsL l).length - 1]? = some a) : laP a ((fsL l).take (((fsL l).length : Int) - 1).toNat) ((fsL l).take (((fsL l).length : Int) - 1).toNat).length = lasL l := by
 rw [show (((fsL l).length : Int) - 1).toNat = (fsL l).length - 1 by omega];have h1 : (fsL l).getLast? = some a := by rw [List.getLast?_eq_getElem?]; exact h
 unfold lasL; rw [h1];unfold laP;rw [List.take_length, List.dropLast_eq_take]
structure SgB (n : Nat) (s : Sgm) : Prop where
 f0 : 0 <= s.From
 ft : s.From <= s.To
 tn : s.To <= n
 lf : s.Left < n
 rt : s.Right < n
theorem SgOk.b {k : Int} {l : List Ite} {s : Sgm} (h : SgOk k l s) : SgB l.length s := ⟨h.f0, h.ft, h.tl, by have := h.ft; have := h.tl; rcases h.lf with h | h <;> omega, by rcases h.rt with h | h <;> omega⟩
attribute [local irreducible] fsL fsP fsA lasL laP cmpV addV addE subV subE drL
theorem zeK (l : List Ite) (hl : l.length <= 1000000) : Fn Tryz.prog 253 [itsA l] (tmsA (fsL l)) := by
 have h00 := zsz l;have h01 := zlI l;refine Fn.go Tryz.func253 Tryz.ntmps253 (fun g w d => ?_);apply yb;refine ya ?_;apply yn;refine ye ?_;apply yd;refine y3 (yZ tmE 60 2 3 200 rfl rfl) ?_;apply yc;refine ya ?_;refine yJ ?_;refine yi ?_;apply Ex.nil;apply yd;apply yb;refine yp ?_;apply X.block
 refine y9 (ι := Nat) (fun (n : Nat) => [(3, .own 200), (4, .ptr 4 0 0 0), (8, itsA l), (9, iv l.length), (10, iv (n : Int))]) (fun (n : Nat) => [(4, .box (tmE (fsA l n)) 60), (200, .row tmE (fsP l n) 60 2)]) (fun (n : Nat) => n <= l.length) (fun (n : Nat) => l.length - n) 0 (fun n hk => ?_) (h0 := by
  exact zaw (by (repeat' (first | exact True.intro | (refine And.intro ⟨_, rfl, ?_⟩ ?_; (first | exact LeV.refl _ | exact LeV.any _ | exact LeB.refl _ | (refine LeV.eq ?_; simp; done) | (refine LeV.eq ?_; congr 1; omega) | (refine LeV.eq ?_; dsimp only; congr 1; omega) | (refine LeV.eq (congrArg (AV.int _) ?_); omega) | exact LeV.nils _ | exact LeB.row (by assumption) | (refine LeB.eq ?_; congr 1; omega) | (refine LeB.eq ?_; congr 1; simp only [cond_true, cond_false]; omega)))))) (by (repeat' (first | exact True.intro | (refine And.intro ⟨_, rfl, ?_⟩ ?_; (first | exact LeB.refl _ | exact LeB.row (by assumption) | exact LeB.eq (congrArg (fun z => Blk.box z 60) h01) | exact LeB.eq (congrArg (fun z => Blk.box z 60) hs1)))))))
 apply yb;refine ye ?_;apply yd;refine yk rfl ?_ ?_<;>intro hc1
 ·obtain ⟨x, hx⟩ : ∃ x, l[n]? = some x := ⟨_, lgg (by omega)⟩;have hx2 : l[(n : Int).toNat]? = some x := by simpa using hx
  have hs3 := znB hx;obtain ⟨hs1, hs2, hs4⟩ := hs3;apply yf;apply yd;apply X.block;apply yb;iterate 2 refine ya ?_
  refine yJ ?_;refine yi ?_;apply yn;iterate 3 refine ya ?_
  refine yr (zbp (fsA l n) x.Dur) ?_;iterate 3 refine ya ?_
  refine yi ?_;apply Ex.nil;apply yc;iterate 2 refine ya ?_
  refine yO tmE [addV (fsA l n) x.Dur] ?_;refine yi ?_;refine ye ?_;apply yc;refine yh ?_;refine yL (n + 1) (hI := zaw (by (repeat' (first | exact True.intro | (refine And.intro ⟨_, rfl, ?_⟩ ?_; (first | exact LeV.refl _ | exact LeV.any _ | exact LeB.refl _ | (refine LeV.eq ?_; simp; done) | (refine LeV.eq ?_; congr 1; omega) | (refine LeV.eq ?_; dsimp only; congr 1; omega) | (refine LeV.eq (congrArg (AV.int _) ?_); omega) | exact LeV.nils _ | exact LeB.row (by assumption) | (refine LeB.eq ?_; congr 1; omega) | (refine LeB.eq ?_; congr 1; simp only [cond_true, cond_false]; omega)))))) (by (repeat' (first | exact True.intro | (refine And.intro ⟨_, rfl, ?_⟩ ?_; (first | exact LeB.refl _ | exact LeB.row (by assumption) | exact LeB.eq (congrArg (fun z => Blk.box z 60) h01) | exact LeB.eq (congrArg (fun z => Blk.box z 60) hs1)))))))
 ·have hn : n = l.length := by omega
  subst hn;have he := zoJ l;apply X.exit;apply yd;refine y3 (Imp.freeze (k := 200) rfl) ?_;apply yc;refine yh ?_;refine X.ret ?_;refine ym ?_;all_goals (first | exact congrArg (fun z => tmsA z) he | (rw [he]; done))
theorem zfE (l : List Ite) (hl : l.length <= 1000000) : Fn Tryz.prog 254 [itsA l] (tmsA (lasL l)) := by
 have hfl := zgS l;refine Fn.go Tryz.func254 Tryz.ntmps254 (fun g w d => ?_);apply yb;refine ya ?_;apply yn;refine ya ?_;refine yr (zeK l hl) ?_;refine ye ?_;apply yd;apply yb;refine yp ?_;refine yk rfl ?_ ?_<;>intro hc1
 ·have he := zoK (l := l) (by omega);apply yb;refine ye ?_;refine X.ret ?_;refine yu (yl (ts := [(2, tmsA [])]) (hs := [])) ?_;refine ym ?_;all_goals (first | exact congrArg (fun z => tmsA z) he | (rw [← he]; done))
 obtain ⟨a, ha⟩ : ∃ a, (fsL l)[(fsL l).length - 1]? = some a := ⟨_, lgg (by omega)⟩;have ha2 : (fsL l)[((fsL l).length - 1 : Int).toNat]? = some a := by rw [show ((fsL l).length - 1 : Int).toNat = (fsL l).length - 1 by omega]; exact ha
 have h00 := zsA a ((fsL l).take (((fsL l).length : Int) - 1).toNat);have htk : ((fsL l).take (((fsL l).length : Int) - 1).toNat).length <= l.length := by rw [List.length_take]; omega
 apply yf;apply yb;iterate 6 refine ya ?_
 refine yJ ?_;refine yi ?_;apply yn;refine ya ?_;refine yO tmE [a] ?_;refine ye ?_;apply yd;apply yb;iterate 4 refine ya ?_
 first
  | refine zbr (zja rfl rfl rfl sl39 ty60 (by omega) (by omega)) rfl ?_
  | refine zbr (zjW rfl rfl sl39 ty60 (fun _ => rfl) (by omega) (by omega)) rfl ?_
 refine yh ?_;apply X.block
 refine y9 (ι := Nat) (fun (n : Nat) => [(4, .ptr 4 0 0 0), (5, .own 22), (27, tmsA ((fsL l).take (((fsL l).length : Int) - 1).toNat)), (28, iv ((fsL l).take (((fsL l).length : Int) - 1).toNat).length), (29, iv (n : Int))]) (fun (n : Nat) => [(4, .box (tmE a) 60), (22, .row tmE (laP a ((fsL l).take (((fsL l).length : Int) - 1).toNat) n) 60 2)]) (fun (n : Nat) => n <= ((fsL l).take (((fsL l).length : Int) - 1).toNat).length) (fun (n : Nat) => ((fsL l).take (((fsL l).length : Int) - 1).toNat).length - n) 0 (fun n hk => ?_) (h0 := by
  exact yx)
 apply yb;refine ye ?_;apply yd;refine yk rfl ?_ ?_<;>intro hc2
 ·obtain ⟨t, ht⟩ : ∃ t, ((fsL l).take (((fsL l).length : Int) - 1).toNat)[n]? = some t := ⟨_, lgg (by omega)⟩;have ht2 : ((fsL l).take (((fsL l).length : Int) - 1).toNat)[(n : Int).toNat]? = some t := by simpa using ht
  have hs3 := zsB (a := a) ht;obtain ⟨hs1, hs2, hs4⟩ := hs3;apply yf;apply yd;apply X.block;apply yb;iterate 2 refine ya ?_
  refine yJ ?_;refine yi ?_;apply yn;iterate 2 refine ya ?_
  refine yr (zcW a t) ?_;iterate 3 refine ya ?_
  refine yJ ?_;refine yi ?_;refine ya ?_;apply yn;refine yh ?_;refine yk rfl ?_ ?_<;>intro hc3
  ·have hs1 := hs1 hc3;apply yc;(iterate 2 refine ya ?_);refine yO tmE [subV a t] ?_;refine yi ?_;refine ye ?_;apply yc;refine yh ?_;refine yL (n + 1) (hI := yx)
  ·have hs2 := hs2 hc3;apply yf;apply yc;refine yh ?_;refine yL (n + 1) (hI := yx)
 ·have hn : n = ((fsL l).take (((fsL l).length : Int) - 1).toNat).length := by omega
  subst hn;have he := zoL ha;apply X.exit;apply yd;refine y3 (Imp.freeze (k := 22) rfl) ?_;apply yc;refine yh ?_;refine X.ret ?_;refine ym ?_;all_goals (first | exact congrArg (fun z => tmsA z) he | (rw [he]; done))
theorem zaX (l : List Ite) (k : Int) (u : Tm) (b : Nat) (x : Ite) : Fn Tryz.prog 251 [.ept (fun _ : Unit => [.sl itE l, iv k, iv u.N, iv u.D, .val (.map (some b))]) () 0, itA x] (.bool (lgQ u x)) := by
 refine Fn.go Tryz.func251 Tryz.ntmps251 (fun g w d => ?_);apply yb;refine yH ?_;refine ye ?_;apply yd;refine zi [5,6,7,8,9,10,11,12,13,14,15,16] [0,1,0,4,12,28,63,127,255,255,511,2047] mo ?_;iterate 6 refine yj ?_
 refine zj (zg0 x.Dur u) ?_;iterate 5 refine yj ?_
 refine yR ?_;apply yn;refine yp ?_;refine X.ret ?_;refine ym ?_;all_goals (rfl)
theorem zaJ (l : List Ite) (k : Int) (u : Tm) (b : Nat) (S : List Tm) (t : Tm) (hS : S.length <= 2000000) : Fn Tryz.prog 252 [.ept (fun _ : Unit => [.sl itE l, iv k, iv u.N, iv u.D, .val (.map (some b))]) () 0, tmsA S, tmA t] (.bool (rcQ u S t)) := by
 refine Fn.go Tryz.func252 Tryz.ntmps252 (fun g w d => ?_);apply yb;refine yH ?_;refine ye ?_;apply yd;refine zi [7,9,10,11,12,13,14,15,16,17] [0,0,2,6,14,31,63,127,127,0,767,2047] mo ?_;iterate 5 refine yj ?_
 refine zj (zbp t u) ?_;iterate 3 refine yj ?_
 refine ChM.step rfl rfl rfl (zA (k := 7) zc60) rfl ?_;refine ChM.lt 8 ?_ ?_
 ·refine yi ?_;refine ya ?_;apply yn;iterate 2 refine ya ?_
  refine ExF.at 2 ?_;refine yC ?_;iterate 2 refine ExF.gi ?_
  refine ExF.cg (zK S (addV t u) (by omega)) ?_;refine yA ?_;refine yh ?_;refine X.ret ?_;refine ym ?_;all_goals (rfl)
 ·refine yi ?_;iterate 2 refine ya ?_
  apply yn;iterate 2 refine ya ?_
  refine ExF.at 2 ?_;refine yC ?_;iterate 2 refine ExF.gi ?_
  refine ExF.cg (zK S (addV t u) (by omega)) ?_;refine yA ?_;refine yh ?_;refine X.ret ?_;refine ym ?_;all_goals (rfl)
end Go.Rse
namespace Go.Rse
open Go Go.Proofs
attribute [local irreducible] Pur yK yM Ex X Fn Imp LeV LeB FnO It yW FnW FnOW
theorem znC (l : List Ite) : (lasL l).length <= l.length := by
 have h := zgS l;unfold lasL;cases hg : (fsL l).getLast? with
 | none => simp
 | some a =>
  simp only [List.length_cons, List.length_map];have := List.length_filter_le (fun t => decide (subE a t = 0)) (fsL l).dropLast;rw [List.length_dropLast] at this;have : (fsL l) ≠ [] := fun e => by rw [e] at hg; simp at hg
  have := List.length_pos_iff.2 this;omega
theorem zcD {l : List Ite} {i : Int} (h0 : 0 <= i) (h : i < l.length) : l[i.toNat]? = some (itg l i) := by
 unfold itg;rw [List.getD_eq_getElem?_getD, lgg (by omega)]; rfl
theorem zqT {k : Int} {l : List Ite} {h : Int} (h1 : (itg l h).Value = k) (h2 : h + 1 < l.length) (h3 : (itg l h).Cut <= 0) (h4 : (itg l (h + 1)).Color = false) (h5 : (itg l (h + 1)).Value = k) : blQ k l h = true := by
 unfold blQ; rw [decide_eq_true h1, decide_eq_true h2, decide_eq_false (show ¬ 0 < (itg l h).Cut by omega), h4, decide_eq_true h5]; rfl
theorem zqU {k : Int} {l : List Ite} {h : Int} (hh : (¬ (itg l h).Value = k \/ (l.length : Int) <= h + 1) \/ 0 < (itg l h).Cut) : blQ k l h = false := by
 unfold blQ;rcases hh with (hh | hh) | hh
 ·rw [decide_eq_false hh]; rfl
 ·rw [decide_eq_false (show ¬ h + 1 < (l.length : Int) by omega)]; simp
 ·rw [decide_eq_true hh]; simp
theorem zqV {k : Int} {l : List Ite} {h : Int} (hh : (itg l (h + 1)).Color = true \/ ¬ (itg l (h + 1)).Value = k) : blQ k l h = false := by
 unfold blQ;rcases hh with hh | hh
 ·rw [hh]; simp
 ·rw [decide_eq_false hh]; simp
theorem zsC {s : Sgm} (h : s.From = s.To \/ s.Free = true) : (decide (s.From = s.To) || s.Free) = true := by
 rcases h with h | h
 ·rw [decide_eq_true h]; rfl
 ·rw [h]; simp
theorem zsD {s : Sgm} (h : ¬ s.From = s.To /\ s.Free = false) : (decide (s.From = s.To) || s.Free) = false := by
 rw [decide_eq_false h.1, h.2]; rfl
def tbL (f w p a t : Bool) : List (List Bool) := [[true, f, f], [false, w && p, false], [false, !f && a, false], [false, false, !f && p && a], [false, false, !f && t]]
def tbV (f w p a t : Bool) (k : Nat) (r : Nat) : Bool := ((tbL f w p a t).getD k []).getD r false
abbrev tbA (f w p a t : Bool) : List AV := [.bool true, .bool f, .bool f, .bool false, .bool (w && p), .bool false, .bool false, .bool (!f && a), .bool false, .bool false, .bool false, .bool (!f && p && a), .bool false, .bool false, .bool (!f && t)]
theorem zqW (f w p a t : Bool) {k : Nat} (h : k < 5) : ((tbA f w p a t).drop ((k : Int).toNat * 3)).take 3 = [.bool (tbV f w p a t k 0), .bool (tbV f w p a t k 1), .bool (tbV f w p a t k 2)] := by
 have : k = 0 \/ k = 1 \/ k = 2 \/ k = 3 \/ k = 4 := by omega
 rcases this with rfl | rfl | rfl | rfl | rfl <;> rfl
theorem zsE (f w p a t : Bool) {k : Nat} (h : k < 5) {r : Int} (h0 : 0 <= r) (h3 : r < 3) : ([.bool (tbV f w p a t k 0), .bool (tbV f w p a t k 1), .bool (tbV f w p a t k 2)] : List AV)[0 * 0 + (0 + r.toNat * 1)]? = some (.bool (tbV f w p a t k r.toNat)) := by
 have h1 : k = 0 \/ k = 1 \/ k = 2 \/ k = 3 \/ k = 4 := by omega
 have h2 : r = 0 \/ r = 1 \/ r = 2 := by omega
 rcases h1 with rfl | rfl | rfl | rfl | rfl <;> rcases h2 with rfl | rfl | rfl <;> rfl
def alP (f w p a t : Bool) (r : Nat) : Nat -> List Int
 | 0 => []
 | k + 1 => alP f w p a t r k ++ if tbV f w p a t k r = true \/ (k = 0 /\ f = true) then [(k : Int)] else []
theorem zsF {f w p a t : Bool} {r n : Nat} (h : tbV f w p a t n r = true \/ ((n : Int) = 0 /\ f = true)) : alP f w p a t r n ++ [(n : Int)] = alP f w p a t r (n + 1) := by
 show _ = _ ++ _;rw [if_pos (by rcases h with h | ⟨h, h2⟩; exact .inl h; exact .inr ⟨by omega, h2⟩)]
theorem zsG {f w p a t : Bool} {r n : Nat} (h : tbV f w p a t n r = false /\ (¬ (n : Int) = 0 \/ f = false)) : alP f w p a t r n = alP f w p a t r (n + 1) := by
 show _ = _ ++ _;rw [if_neg (fun hh => by rcases hh with hh | ⟨hh, h2⟩; (rw [h.1] at hh; cases hh); (rcases h.2 with h3 | h3; (exact h3 (by omega)); (rw [h3] at h2; cases h2))), List.append_nil]
theorem zlJ (f w p a t : Bool) (r : Nat) : ∀ k, (alP f w p a t r k).length <= k
 | 0 => Nat.le_refl _
 | k + 1 => by
  have := zlJ f w p a t r k;rw [show alP f w p a t r (k + 1) = alP f w p a t r k ++ (if tbV f w p a t k r = true \/ (k = 0 /\ f = true) then [(k : Int)] else []) from rfl, List.length_append];split <;> simp <;> omega
theorem zoM (p a t : Bool) {s : Sgm} : alP s.Free (decide (s.Count.D = 1)) p a t (s.Count.N % 3).toNat 5 = alR p a t s := by
 have hm0 := Int.emod_nonneg s.Count.N (show (3 : Int) ≠ 0 by omega);have hm1 := Int.emod_lt_of_pos s.Count.N (show (0 : Int) < 3 by omega);unfold alR;generalize s.Count.N % 3 = r at *
 have hr : r = 0 \/ r = 1 \/ r = 2 := by omega
 have hw : ∀ w : Bool, w = decide (s.Count.D = 1) -> (s.Count.D = 1 ↔ w = true) := fun w e => by rw [e]; simp
 have := hw _ rfl;generalize decide (s.Count.D = 1) = w at *
 simp only [this];generalize s.Free = f at *
 rcases hr with rfl | rfl | rfl <;> cases f <;> cases w <;> cases p <;> cases a <;> cases t <;> rfl
theorem znD : mpOk Tryz.prog 139 3 4 := ⟨by kernel_rfl, _, Tryz.underlying3⟩
theorem zlK : ∃ d, Tryz.prog.underlying 3 = some (.int d) /\ d = .i64 := ⟨_, Tryz.underlying3, rfl⟩
theorem znE {P : Program} {T : TypeId} (h : (P.info? T).bind (·.zero) = some (.bool false)) : ∃ z i, P.info? T = some i /\ i.zero = some z /\ ∀ I, RV I noNames (.bool false) z := by
 cases hi : P.info? T with
 | none => simp [hi] at h
 | some i => exact ⟨.bool false, i, rfl, by simpa [hi] using h, fun I => .bool _⟩
theorem znF : ∃ z i, Tryz.prog.info? 4 = some i /\ i.zero = some z /\ ∀ I, RV I noNames (AV.bool false) z := znE ze4
attribute [local irreducible] fsL fsP fsA lasL laP cmpV addV addE subV subE drL
set_option maxHeartbeats 2000000 in
theorem zcO (l : List Ite) (k : Int) (u : Tm) (b : Nat) (L : List (Int × Bool)) (s : Sgm) (hs : SgB l.length s) (hl : l.length <= 1000000) : FnW Tryz.prog 198 [.ept (fun _ : Unit => [.sl itE l, iv k, iv u.N, iv u.D, .val (.map (some b))]) () 0, smA s] (.bool (poQ u k l L s)) (zhu b (fun i : Int => .int .i64 i) AV.bool L) := by
 have f0 := hs.f0;have ft := hs.ft;have tn := hs.tn;have lf := hs.lf;have hrl : (itR l s).length <= 1000000 := by unfold itR; simp; omega
 have hfl := zgS (itR l s);refine FnW.go Tryz.func198 Tryz.ntmps198 (fun g w d hH hfr => ?_);apply yb;refine yH ?_;refine ye ?_;apply yd;apply yb;refine yp ?_;refine yk rfl ?_ ?_<;>intro hc1
 ·have hE : poQ u k l L s = false := by unfold poQ; rw [decide_eq_true hc1]; rfl
  apply yb;refine ye ?_;refine X.ret ?_;refine ym ?_;all_goals (rw [hE])
 have hx := zcD (l := l) (i := s.Left) (by omega) lf;have hE : poQ u k l L s = ((decide ((itg l s.Left).Value < k) || !(mget s.Left L).getD false) && lgQ u (itg l s.Left) && rcQ u (fsL (itR l s)) (itg l s.Left).After) := by unfold poQ; rw [decide_eq_false (show ¬ s.Left < 0 by omega)]; rfl
 apply yf;apply yd;refine zi [5,9,10,11,12,13,14,15,16,17] [0,1,3,7,15,0,32,127,255,0,1023] mo ?_;iterate 9 refine yj ?_
 refine ChM.step rfl rfl rfl (zA (k := 5) zc62) rfl ?_;refine yR ?_;refine yi ?_;apply Ex.nil;apply yd;refine zi [4,18,19,20,21,22,23,24,25,26,27,28,29,30,31,32,33,34,35,36,37,38,39,40,41,42,43,44,45,46,47,48,49,50,51,52,53,54,55,56] [0,1,0,4,12,28,63,127,255,511,1023,2047,255,4351,16383,32767,65535,131071,262143,262143,1048575,2097151,4194303,8388607,8388607,25165823,58720255,125829119,260046847,8388607,545259519,8388607,2155872255,8581545983,17171480575,8388607,34368126975,137438953471,274877906943,549755813887] mo ?_;iterate 8 refine yj ?_
 iterate 6 refine ChM.gi ?_
 refine ChM.gi ?_ (hs := by intro hgd; exact zmo false hH hfr znD zlK znF);refine ChM.gi ?_;iterate 2 refine yj ?_
 iterate 2 refine ChM.gi ?_
 refine ChM.cg (zaX l k u b (itg l s.Left)) ?_;iterate 2 refine yj ?_
 iterate 10 refine ChM.gi ?_
 refine ChM.gi ?_ (hs := by intro hgd; exact zcv rfl rfl rfl sl24 ty62 (fun _ => rfl) (by omega) (by omega) (by omega));refine ChM.cg (zeK (itR l s) hrl) ?_;iterate 2 refine ChM.gi ?_
 refine ChM.cg (zaJ l k u b (fsL (itR l s)) (itg l s.Left).After (by omega)) ?_;iterate 2 refine yj ?_
 refine yR ?_;apply Ex.nil;refine X.ret ?_;refine ym ?_;all_goals (rw [hE])
set_option maxHeartbeats 2000000 in
theorem zcP (l : List Ite) (k : Int) (u : Tm) (b : Nat) (s : Sgm) (hs : SgB l.length s) (hl : l.length <= 1000000) : Fn Tryz.prog 199 [.ept (fun _ : Unit => [.sl itE l, iv k, iv u.N, iv u.D, .val (.map (some b))]) () 0, smA s] (.bool (anQ u k l s)) := by
 have f0 := hs.f0;have ft := hs.ft;have tn := hs.tn;have rt := hs.rt;have hrl : (itR l s).length <= 1000000 := by unfold itR; simp; omega
 have hfl := znC (itR l s);refine Fn.go Tryz.func199 Tryz.ntmps199 (fun g w d => ?_);apply yb;refine yH ?_;refine ye ?_;apply yd;apply yb;refine yp ?_;refine yk rfl ?_ ?_<;>intro hc1
 ·have hE : anQ u k l s = false := by unfold anQ; rw [decide_eq_true hc1]; rfl
  apply yb;refine ye ?_;refine X.ret ?_;refine ym ?_;all_goals (rw [hE])
 have hx := zcD (l := l) (i := s.Right) (by omega) rt;apply yf;apply yd;refine zi [5,10,11,12,13,14,15,16,17,18] [0,1,3,7,15,0,32,127,255,0,1023] mo ?_;iterate 9 refine yj ?_
 refine ChM.step rfl rfl rfl (zA (k := 5) zc62) rfl ?_;refine yR ?_;refine yi ?_;apply Ex.nil;iterate 2 apply yd
 refine zi [19,20,21,22,23,24,25,26,27,28,29,30,31,32,33,34,35,36,37,38,39,40,41,42,43] [0,1,0,4,12,28,63,127,255,511,1023,255,2303,6399,14591,30975,63743,131071,262143,524287,1048575,2097151,4194303,8388607,16777215] mo ?_;iterate 8 refine yj ?_
 iterate 10 refine ChM.gi ?_
 iterate 2 refine yj ?_
 iterate 4 refine ChM.gi ?_
 refine yj ?_;refine yR ?_;apply Ex.nil;refine yk rfl ?_ ?_<;>intro hc2
 ·obtain ⟨⟨hv1, hv2⟩, hv3⟩ := hc2;have hx2 := zcD (l := l) (i := s.Right + 1) (by omega) (by omega);apply yd;refine zi [6,44,45,46,47,48,49,50,51,52,53] [0,1,3,7,15,0,32,96,255,511,0,2047] mo ?_;iterate 10 refine yj ?_
  refine ChM.step rfl rfl rfl (zA (k := 6) zc62) rfl ?_;refine yR ?_;refine yi ?_;apply Ex.nil;apply yd;refine zi [54,55,56,57,58,59,60,61,62,63,64,65] [0,1,3,7,15,31,15,79,207,463,1023,2047] mo ?_;iterate 4 refine yj ?_
  iterate 7 refine ChM.gi ?_
  refine yj ?_;refine yR ?_;apply Ex.nil;refine yk rfl ?_ ?_<;>intro hc3
  ·have hB : blQ k l s.Right = true := zqT hv1 hv2 hv3 hc3.1 hc3.2;have hE : anQ u k l s = false := by unfold anQ; rw [hB, decide_eq_false (show ¬ s.Right < 0 by omega)]; rfl
   apply yb;refine ye ?_;refine X.ret ?_;refine ym ?_;all_goals (rw [hE])
  have hB : blQ k l s.Right = false := zqV hc3;have hE : anQ u k l s = (lgQ u (itg l s.Right) && rcQ u (lasL (itR l s)) (itg l s.Right).Before) := by unfold anQ; rw [decide_eq_false (show ¬ s.Right < 0 by omega), hB]; rfl
  apply yf;apply yd;refine zi [4,66,67,68,69,70,71,72,73,74,75,76,77,78,79,80,81,82,83,84,85] [0,0,3,7,15,15,47,111,239,495,15,1039,15,4111,16367,32751,15,65551,262143,524287,1048575] mo ?_;iterate 2 refine yj ?_
  refine zj (zaX l k u b (itg l s.Right)) ?_;refine yj ?_;iterate 10 refine ChM.gi ?_
  refine ChM.gi ?_ (hs := by intro hgd; exact zcv rfl rfl rfl sl24 ty62 (fun _ => rfl) (by omega) (by omega) (by omega));refine ChM.cg (zfE (itR l s) hrl) ?_;iterate 2 refine ChM.gi ?_
  refine ChM.cg (zaJ l k u b (lasL (itR l s)) (itg l s.Right).Before (by omega)) ?_;iterate 2 refine yj ?_
  refine yR ?_;apply Ex.nil;refine X.ret ?_;refine ym ?_;all_goals (rw [hE])
 ·have hB : blQ k l s.Right = false := zqU hc2;have hE : anQ u k l s = (lgQ u (itg l s.Right) && rcQ u (lasL (itR l s)) (itg l s.Right).Before) := by unfold anQ; rw [decide_eq_false (show ¬ s.Right < 0 by omega), hB]; rfl
  apply yf;apply yd;refine zi [4,66,67,68,69,70,71,72,73,74,75,76,77,78,79,80,81,82,83,84,85] [0,0,3,7,15,15,47,111,239,495,15,1039,15,4111,16367,32751,15,65551,262143,524287,1048575] mo ?_;iterate 2 refine yj ?_
  refine zj (zaX l k u b (itg l s.Right)) ?_;refine yj ?_;iterate 10 refine ChM.gi ?_
  refine ChM.gi ?_ (hs := by intro hgd; exact zcv rfl rfl rfl sl24 ty62 (fun _ => rfl) (by omega) (by omega) (by omega));refine ChM.cg (zfE (itR l s) hrl) ?_;iterate 2 refine ChM.gi ?_
  refine ChM.cg (zaJ l k u b (lasL (itR l s)) (itg l s.Right).Before (by omega)) ?_;iterate 2 refine yj ?_
  refine yR ?_;apply Ex.nil;refine X.ret ?_;refine ym ?_;all_goals (rw [hE])
set_option maxHeartbeats 2000000 in
theorem zfF (l : List Ite) (k : Int) (u : Tm) (b : Nat) (s : Sgm) (hs : SgB l.length s) (hl : l.length <= 1000000) (k0 : -9223372036854775808 <= k) (k1 : k + 1 <= 9223372036854775807) : Fn Tryz.prog 200 [.ept (fun _ : Unit => [.sl itE l, iv k, iv u.N, iv u.D, .val (.map (some b))]) () 0, smA s] (.bool (atQ u k l s)) := by
 have f0 := hs.f0;have ft := hs.ft;have tn := hs.tn;have rt := hs.rt;refine Fn.go Tryz.func200 Tryz.ntmps200 (fun g w d => ?_);apply yb;refine yH ?_;refine ye ?_;apply yd;apply yb;iterate 5 refine ya ?_
 refine ExF.at 5 ?_;refine yC ?_;iterate 2 refine ExF.gi ?_
 refine yA ?_;refine ye ?_;refine yk rfl ?_ ?_<;>intro hc1
 ·have hE : atQ u k l s = false := by unfold atQ; rw [zsC hc1]; rfl
  apply yb;refine ye ?_;refine X.ret ?_;refine ym ?_;all_goals (first | (rw [hE]; done) | (rw [hE]; unfold ntQ; rfl))
 have hx := zcD (l := l) (i := s.To - 1) (by omega) (by omega);have hE : atQ u k l s = (ntQ u k (itg l (s.To - 1)) && (decide (s.Right < 0) || decide ((itg l s.Right).Before.N = 0))) := by unfold atQ; rw [zsD hc1]; rfl
 apply yf;apply yd;refine zi [5,16,17,18,19,20,21,22,23,24,25] [0,1,3,7,15,0,32,96,255,511,0,2047] mo ?_;iterate 10 refine yj ?_
 refine ChM.step rfl rfl rfl (zA (k := 5) zc62) rfl ?_;refine yR ?_;refine yi ?_;apply Ex.nil;apply yd;refine zi [6,26,27,28,29,30,31,32,33,34,35,36,37,38,39,40,41,42,43,44,45,46,47,48,49,50,51,52,53,54,55,56,57] [0,1,3,7,15,31,63,127,255,511,1023,2047,4095,8191,16383,32767,16383,81919,212991,475135,999423,2097151,4194303,8388607,16777215,33554431,16777215,83886079,218103807,486539263,1073741823,2147483647,4294967295] mo ?_;iterate 4 refine yj ?_
 iterate 3 refine ChM.gi ?_
 iterate 2 refine yj ?_
 iterate 3 refine ChM.gi ?_
 iterate 2 refine yj ?_
 iterate 8 refine ChM.gi ?_
 iterate 2 refine yj ?_
 iterate 7 refine ChM.gi ?_
 iterate 2 refine yj ?_
 refine yR ?_;apply Ex.nil;apply yd;refine zi [4,58,59,60,61,62,63,64,65,66,67,68,69,70,71,72,73,74,75,76,77] [0,1,3,7,15,31,63,127,255,511,1023,63,2111,8191,16383,32767,65535,131071,262143,524287,1048575] mo ?_;iterate 2 refine yj ?_
 iterate 17 refine ChM.gi ?_
 iterate 2 refine yj ?_
 refine yR ?_;apply Ex.nil;refine X.ret ?_;refine ym ?_;all_goals (first | (rw [hE]; done) | (rw [hE]; unfold ntQ; rfl))
set_option maxHeartbeats 4000000 in
theorem zaK (l : List Ite) (k : Int) (u : Tm) (b : Nat) (L : List (Int × Bool)) (s : Sgm) (hs : SgB l.length s) (hl : l.length <= 1000000) (k0 : -9223372036854775808 <= k) (k1 : k + 1 <= 9223372036854775807) (hN : 0 <= s.Count.N) : FnOW Tryz.prog 126 [.ept (fun _ : Unit => [.sl itE l, iv k, iv u.N, iv u.D, .val (.map (some b))]) () 0, smA s] intE (alQ u k l L s) 3 1 (zhu b (fun i : Int => .int .i64 i) AV.bool L) := by
 have hr0 := Int.emod_nonneg s.Count.N (show (3 : Int) ≠ 0 by omega);have hr1 := Int.emod_lt_of_pos s.Count.N (show (0 : Int) < 3 by omega);refine FnOW.go Tryz.func126 Tryz.ntmps126 (rv := [.tmp 4]) (fun g w d hH hfr => ?_);have hH2 : ∀ st g' a w', Rel (C0 86 d g w) st g' a w' -> zhu b (fun i : Int => .int .i64 i) AV.bool L g'.I g'.O w' := fun st g' a w' hr => hH.now rfl hfr hr
 apply yb;refine yH ?_;refine ya ?_;apply yn;iterate 5 refine ya ?_
 apply yn;refine y4 ?_;apply yd;refine zi [7,19,20,21,22,23,24,25,26,27,28,29,30,31,32,33,34,35,36,37,38,39,40,41,42,43,44,45,46,47,48,49,50,51,52,53,54,55,56,57,58,59,60,61,62,63] [0,1,0,4,15,0,32,96,96,480,992,2016,0,4096,12288,29664,62432,62432,259040,521184,1045472,0,2097152,6291456,15201248,31978464,31978464,132641760,266859488,535294944,1072165856,1072165856,4293391328,8588358624,17178293216,0,34359738368,103079215104,249106527200,523984434144,523984434144,2173251875808,4372275131360,8770321642464,17592186044415,0,70368744177663] mo ?_;iterate 7 refine yj ?_
 iterate 2 refine ChM.gi ?_
 refine ChM.lg (x := .bool (poQ u k l L s)) hH2 (zcO l k u b L s hs hl) ?_;iterate 6 refine yj ?_
 iterate 2 refine ChM.gi ?_
 refine ChM.cg (zcP l k u b s hs hl) ?_;iterate 6 refine yj ?_
 iterate 2 refine ChM.gi ?_
 refine ChM.lg (x := .bool (poQ u k l L s)) hH2 (zcO l k u b L s hs hl) ?_;iterate 2 refine yj ?_
 iterate 2 refine ChM.gi ?_
 refine ChM.cg (zcP l k u b s hs hl) ?_;iterate 6 refine yj ?_
 iterate 2 refine ChM.gi ?_
 refine ChM.cg (zfF l k u b s hs hl k0 k1) ?_;iterate 3 refine yj ?_
 refine ChM.step rfl rfl rfl (zA (k := 7) zp9) rfl ?_;refine yR ?_;refine yi ?_;apply yn;refine ye ?_;iterate 2 apply yd
 refine y3 (yZ intE 3 1 8 5 rfl rfl) ?_;apply yc;refine yh ?_;apply X.block;refine y9 (ι := Nat) (fun (n : Nat) => [(3, .ptr 3 0 0 0), (6, iv (s.Count.N % 3)), (8, .own 5), (64, .agg (tbA s.Free (decide (s.Count.D = 1)) (poQ u k l L s) (anQ u k l s) (atQ u k l s))), (65, iv (n : Int))]) (fun (n : Nat) => [(3, .box (smE s) 104), (5, .row intE (alP s.Free (decide (s.Count.D = 1)) (poQ u k l L s) (anQ u k l s) (atQ u k l s) (s.Count.N % 3).toNat n) 3 1)]) (fun (n : Nat) => n <= 5) (fun (n : Nat) => 5 - n) 0 (fun n hk => ?_);apply yb;refine ye ?_;apply yd;refine yk rfl ?_ ?_<;>intro hc1
 ·have hn5 : n < 5 := by omega
  have hpt := zqW s.Free (decide (s.Count.D = 1)) (poQ u k l L s) (anQ u k l s) (atQ u k l s) hn5;have hcell := zsE s.Free (decide (s.Count.D = 1)) (poQ u k l L s) (anQ u k l s) (atQ u k l s) hn5 hr0 hr1;have hal := zlJ s.Free (decide (s.Count.D = 1)) (poQ u k l L s) (anQ u k l s) (atQ u k l s) (s.Count.N % 3).toNat n;apply yf;apply yd;apply X.block;apply yb;refine ya ?_;refine ya (hs := by exact zR ArK.h TyK.h rfl rfl (by omega) (by omega) hpt) ?_;refine yJ ?_;refine ya ?_;refine yi ?_;apply yn;refine ya ?_;refine ya (hs := by exact zgn rfl rfl ArK.h ty4 (by omega) (by omega)) ?_;refine ya (hs := by exact yY rfl rfl hcell ty4) ?_;refine ExF.at 3 ?_;refine yC ?_;iterate 6 refine ExF.gi ?_
  refine yA ?_;refine ye ?_;refine yk rfl ?_ ?_<;>intro hc2
  ·have hst := zsF (r := (s.Count.N % 3).toNat) hc2;apply yc;(iterate 2 refine ya ?_);refine yO intE [_] ?_;refine yi ?_;refine ye ?_;apply yc;refine yh ?_;refine yL (n + 1)
  ·have hst := zsG (r := (s.Count.N % 3).toNat) hc2;apply yf;apply yc;refine yh ?_;refine yL (n + 1)
 ·have hn : n = 5 := by omega
  subst hn;have he : alP s.Free (decide (s.Count.D = 1)) (poQ u k l L s) (anQ u k l s) (atQ u k l s) (s.Count.N % 3).toNat 5 = alQ u k l L s := zoM _ _ _;apply X.exit;apply yb;refine yh ?_;refine X.ret ?_;refine ⟨.inr rfl, [(4, .own 5)], [], yl, .one (.tmp rfl (LeV.eq rfl))⟩
end Go.Rse
namespace Go.Rse
open Go Go.Proofs
section
variable {P : Program} {C : Ctx} {st : St} {ty : TypeId} {Q : Exit -> St -> Prop} {ops : Array Oper} {ms : List Nat} {hid : List Nat} {i m : Nat} {fs : List FactM} {o : Oper} {x : AV} {nb : Option (Nat × Blk)}
theorem ChM.lo {d : Nat} {α : Type} {enc : α -> List AV} {l : List α} {E s : Nat} {f : FuncId} {caps xs : List AV} {fop : Operand} {args : Array Operand} {ts : Array TypeId} (q : Nat) (hc : FnOW P f (xs ++ caps) enc l E s fun _ _ _ => True) (hfl : ∀ x, AV.flat.flatL (enc x) = true) (h : ChM P C ops ms st hid Q (i + 1) (⟨i, some d, .own q, some (q, .row enc l E s), m, []⟩ :: fs)) (hm : ms[i]? = some m := by exact rfl) (ho : ops[i]? = some o := by exact rfl) (hg : o.guard = none := by exact rfl) (hod : o.dst = some d := by exact rfl)
 (hop : o.op = .call { callee := .value fop, args := args, argTypes := ts } := by exact rfl) (hf : ev (stV st hid m fs []) fop = some (.fn f caps) := by exact rfl) (hx : evs (stV st hid m fs []) args.toList = some xs := by exact rfl) (hd : d.blt C.n = true := by exact rfl) : ChM P C ops ms st hid Q i fs :=
 .step hm ho hg (by rw [hop]; exact zc8 (ι := Unit) (stF := fun _ => stV st hid m fs []) (caps := fun _ => caps) (xs := fun _ => xs) q (fun g a w hr => zlD Imp.refl hr) (fun _ => hc) hfl (fun _ => hf) (fun _ => hx) (fun _ => LeL.refl _)) (by rw [hod]; exact hd) (by rw [hod]; exact h)
end
instance : ZcK Tryz.prog 141 [.nils, .int .i64 0, .int .i64 0, .int .i64 0, .val (.map none)] := ⟨⟨_, ztb, rfl⟩⟩
attribute [local irreducible] Pur yK yM Ex X Fn Imp LeV LeB FnO It yW FnW FnOW
theorem set2 {l : List Ite} {i : Nat} {x y : Ite} : (l.set i x).set i y = l.set i y := by rw [List.set_set]
theorem zjd {l : List Ite} {i : Nat} {x y : Ite} (h : l[i]? = some x) : (l.set i y)[i]? = some y := by
 have := (List.getElem?_eq_some_iff.1 h).1;rw [List.getElem?_set]; simp [this]
attribute [local irreducible] addV addE subV subE
theorem zf7 (m : Mn) (k : Int) (l : List Ite) (h0 : -9223372036854775808 <= k) (h1 : k <= 9223372036854775807) (hl : l.length <= 1000000) (hE : ¬ segE m k l = 0) : Fn Tryz.prog 94 [mnA m, iv k, itsA l] (.tup [.val (.pointer none), smsA [], iv (segE m k l)]) := by
 refine Fn.go Tryz.func94 Tryz.ntmps94 (fun g w d => ?_);apply yb;refine yH ?_;iterate 3 refine ya ?_
 apply yn;iterate 3 refine ya ?_
 refine yr (zbt m k l h0 h1 hl) ?_;refine y4 ?_;apply yd;apply yb;refine yh ?_;refine yk rfl ?_ ?_<;>intro hc1
 ·apply yb;refine yX ?_;refine X.ret ?_;refine yu (yl (ts := [(6, .val (.pointer none)), (7, smsA []), (8, iv (segE m k l))]) (hs := [])) ?_;refine RetQ.ret (.many (by decide) (.cons (.tmp rfl (LeV.eq ?_)) (.cons (.tmp rfl (LeV.eq ?_)) (.cons (.tmp rfl (LeV.eq ?_)) .nil))));all_goals (first | rfl | (simp_all; done))
 exact absurd hc1 hE
theorem zaE (m : Mn) (k : Int) (l : List Ite) (h0 : -9223372036854775808 <= k) (h1 : k <= 9223372036854775807) (hl : l.length <= 1000000) (hE : segE m k l = 0) : FnO Tryz.prog 94 [mnA m, iv k, itsA l] [] [] (.tup [.ptr 36 0 0 0, smsA (segV m k l), iv 0]) [(36, .box [.own 30, iv k, iv (unT m k).N, iv (unT m k).D, .mp 34] 141), (30, .row itE l 62 12), (34, .mpb (fun i : Int => .int .i64 i) AV.bool [])] := by
 refine FnO.introX (ts := [(0, mnA m), (1, iv k), (2, itsA l)]) (rv := [.tmp 6, .tmp 7, .tmp 8]) (n := 38) (cs := []) (by kernel_rfl) Tryz.func94 rfl Tryz.ntmps94 rfl rfl (by simp) rfl rfl rfl rfl (fun g w d vs => ?_);apply yb;refine yH ?_;iterate 3 refine ya ?_
 apply yn;iterate 3 refine ya ?_
 refine yr (zbt m k l h0 h1 hl) ?_;refine y4 ?_;apply yd;apply yb;refine yh ?_;refine yk rfl ?_ ?_<;>intro hc1
 ·exact absurd hE hc1
 apply yf;apply yb;iterate 2 refine ya ?_
 refine yr (zfD m k h0 h1) ?_;iterate 3 refine ya ?_
 refine yJ ?_;refine yi ?_;refine ye ?_;apply yd;refine zi [6,7,8,29,30,31,32,33,34,35,36,37] [0,1,3,0,0,0,63,127,0,255,1023,2047] mo ?_;refine yj ?_;refine ChM.lo 30 (zT l (by omega)).ow (fun _ => rfl) ?_;iterate 3 refine yj ?_
 refine ChM.step rfl rfl rfl (zir (k := 34) (fun i : Int => .int .i64 i) AV.bool) rfl ?_;refine yj ?_;refine ChM.step rfl rfl rfl (zen (k := 36) rfl rfl) rfl ?_;iterate 4 refine yj ?_
 refine yR ?_;apply Ex.nil;refine X.ret ?_;refine zlC.mk [(6, .ptr 36 0 0 0), (7, smsA (segV m k l)), (8, iv 0)] [] (.inr rfl) (.many (by decide) (.cons (.tmp rfl (LeV.eq ?_)) (.cons (.tmp rfl (LeV.eq ?_)) (.cons (.tmp rfl (LeV.eq ?_)) .nil))));all_goals (rfl)
set_option maxHeartbeats 2000000 in
theorem zdc (l : List Ite) (k : Int) (u : Tm) (L : List (Int × Bool)) (i : Nat) (x : Ite) (hx : l[i]? = some x) : FnO Tryz.prog 229 [.ptr 2000001 12 i 0, .ptr 2000001 12 i 10, .ptr 2000003 0 0 0] [(2000003, .box [.ptr 2000000 0 0 0] 135), (2000000, .box [.own 2000001, iv k, iv u.N, iv u.D, .mp 2000002] 141), (2000001, .row itE (l) 62 12), (2000002, .mpb (fun i : Int => .int .i64 i) AV.bool (L))] [2000003, 2000000, 2000001, 2000002] (iv (max (subE x.Dur u) (addE x.After u))) [(2000003, .box [.ptr 2000000 0 0 0] 135), (2000000, .box [.own 2000001, iv k, iv u.N, iv u.D, .mp 2000002] 141), (2000001, .row itE (l.set i (zag u x)) 62 12), (2000002, .mpb (fun i : Int => .int .i64 i) AV.bool (L))] := by
 have hx1 := zjd (y := { x with Dur := subV x.Dur u }) hx;have hst : (l.set i { x with Dur := subV x.Dur u }).set i (zag u x) = l.set i (zag u x) := set2;refine FnO.introX (ts := [(0, .ptr 2000001 12 i 0), (1, .ptr 2000001 12 i 10), (2, .ptr 2000003 0 0 0)]) (rv := [.tmp 5]) (n := 39) (cs := [.ptr 2000003 0 0 0, .ptr 2000000 0 0 0, .own 2000001, .mp 2000002]) (by kernel_rfl) Tryz.func229 rfl Tryz.ntmps229 rfl rfl (by simp) rfl rfl rfl rfl (fun g w d vs => ?_);apply yb;refine ya ?_;apply yn;refine yh ?_;apply yd;refine zi [8,9,10,11,12,13,14,15,16,17,18,19,20,21,22] [0,0,2,6,14,0,32,96,224,510,1022,2046,2046,4095,12287,28671,65535] mo ?_;iterate 2 refine yj ?_
 refine yj ?_ (hs := by exact yo rfl);refine yj ?_;refine yj ?_ (hs := by exact zg (n := 2) rfl rfl hx rfl rfl (by decide) rfl TyK.h);refine yj ?_;refine yj ?_ (hs := by exact yo rfl);iterate 2 refine yj ?_
 refine zj (zcW x.Dur u) ?_;iterate 3 refine yj ?_
 refine yj ?_ (hs := by exact yo rfl);refine yj ?_;refine zbe 12 ⟨[(0, .ptr 2000001 12 i 0), (1, .ptr 2000001 12 i 10), (2, .ptr 2000003 0 0 0), (6, iv (subE x.Dur u)), (7, iv 0)], [(1000001, .hold vs [.ptr 2000003 0 0 0, .ptr 2000000 0 0 0, .own 2000001, .mp 2000002]), (2000003, .box [.ptr 2000000 0 0 0] 135), (2000000, .box [.own 2000001, iv k, iv u.N, iv u.D, .mp 2000002] 141), (2000001, .row itE (l.set i { x with Dur := subV x.Dur u }) 62 12), (2000002, .mpb (fun i : Int => .int .i64 i) AV.bool (L))]⟩ (fun Q hQ => ?_) (fun Q hQ => ?_) ?_
 ·refine yi (hs := zf (n := 2) x { x with Dur := subV x.Dur u } rfl rfl hx (fun _ => rfl) (by decide) rfl rfl rfl (by decide) rfl rfl rfl TyK.h) ?_;refine ya ?_;exact ze yx hQ
 ·refine yi (hs := zf (n := 2) x { x with Dur := subV x.Dur u } rfl rfl hx (fun _ => rfl) (by decide) rfl rfl rfl (by decide) rfl rfl rfl TyK.h) ?_;iterate 2 refine ya ?_
  exact ze yx hQ
 apply Ex.nil;apply yd;refine zi [23,24,25,26,27,28,29,30,31,32,33,34,35] [0,0,2,6,0,16,48,112,254,510,1022,1022,2047,6143,16383] mo ?_;iterate 2 refine yj ?_
 refine yj ?_ (hs := by exact yo rfl);refine yj ?_ (hs := by exact zg (n := 2) rfl rfl hx1 rfl rfl (by decide) rfl TyK.h);refine yj ?_;refine yj ?_ (hs := by exact yo rfl);iterate 2 refine yj ?_
 refine zj (zbp x.After u) ?_;iterate 3 refine yj ?_
 refine yj ?_ (hs := by exact yo rfl);refine zbe 11 ⟨[(6, iv (subE x.Dur u)), (7, iv (addE x.After u))], [(1000001, .hold vs [.ptr 2000003 0 0 0, .ptr 2000000 0 0 0, .own 2000001, .mp 2000002]), (2000003, .box [.ptr 2000000 0 0 0] 135), (2000000, .box [.own 2000001, iv k, iv u.N, iv u.D, .mp 2000002] 141), (2000001, .row itE ((l.set i { x with Dur := subV x.Dur u }).set i (zag u x)) 62 12), (2000002, .mpb (fun i : Int => .int .i64 i) AV.bool (L))]⟩ (fun Q hQ => ?_) (fun Q hQ => ?_) ?_
 ·refine yi (hs := zf (n := 2) { x with Dur := subV x.Dur u } (zag u x) rfl rfl hx1 (fun _ => rfl) (by decide) rfl rfl rfl (by decide) rfl rfl rfl TyK.h) ?_;refine ya ?_;exact ze yx hQ
 ·refine yi (hs := zf (n := 2) { x with Dur := subV x.Dur u } (zag u x) rfl rfl hx1 (fun _ => rfl) (by decide) rfl rfl rfl (by decide) rfl rfl rfl TyK.h) ?_;iterate 2 refine ya ?_
  exact ze yx hQ
 apply yn;iterate 2 refine ya ?_
 refine ya (hs := by exact zlp rfl rfl) ?_;refine ye ?_;refine X.ret ?_;refine zcC (st' := ⟨[(5, iv (max (subE x.Dur u) (addE x.After u)))], [(1000001, .hold vs [.ptr 2000003 0 0 0, .ptr 2000000 0 0 0, .own 2000001, .mp 2000002]), (2000003, .box [.ptr 2000000 0 0 0] 135), (2000000, .box [.own 2000001, iv k, iv u.N, iv u.D, .mp 2000002] 141), (2000001, .row itE (l.set i (zag u x)) 62 12), (2000002, .mpb (fun i : Int => .int .i64 i) AV.bool (L))]⟩) (by first | exact yl | exact yx) ?_;refine zlC.mk [(5, iv (max (subE x.Dur u) (addE x.After u)))] [] (.inr rfl) (.one (.tmp rfl (LeV.eq ?_)));all_goals (rfl)
set_option maxHeartbeats 2000000 in
theorem zdd (l : List Ite) (k : Int) (u : Tm) (L : List (Int × Bool)) (i : Nat) (x : Ite) (hx : l[i]? = some x) : FnO Tryz.prog 229 [.ptr 2000001 12 i 0, .ptr 2000001 12 i 8, .ptr 2000003 0 0 0] [(2000003, .box [.ptr 2000000 0 0 0] 135), (2000000, .box [.own 2000001, iv k, iv u.N, iv u.D, .mp 2000002] 141), (2000001, .row itE (l) 62 12), (2000002, .mpb (fun i : Int => .int .i64 i) AV.bool (L))] [2000003, 2000000, 2000001, 2000002] (iv (max (subE x.Dur u) (addE x.Before u))) [(2000003, .box [.ptr 2000000 0 0 0] 135), (2000000, .box [.own 2000001, iv k, iv u.N, iv u.D, .mp 2000002] 141), (2000001, .row itE (l.set i (zal u x)) 62 12), (2000002, .mpb (fun i : Int => .int .i64 i) AV.bool (L))] := by
 have hx1 := zjd (y := { x with Dur := subV x.Dur u }) hx;have hst : (l.set i { x with Dur := subV x.Dur u }).set i (zal u x) = l.set i (zal u x) := set2;refine FnO.introX (ts := [(0, .ptr 2000001 12 i 0), (1, .ptr 2000001 12 i 8), (2, .ptr 2000003 0 0 0)]) (rv := [.tmp 5]) (n := 39) (cs := [.ptr 2000003 0 0 0, .ptr 2000000 0 0 0, .own 2000001, .mp 2000002]) (by kernel_rfl) Tryz.func229 rfl Tryz.ntmps229 rfl rfl (by simp) rfl rfl rfl rfl (fun g w d vs => ?_);apply yb;refine ya ?_;apply yn;refine yh ?_;apply yd;refine zi [8,9,10,11,12,13,14,15,16,17,18,19,20,21,22] [0,0,2,6,14,0,32,96,224,510,1022,2046,2046,4095,12287,28671,65535] mo ?_;iterate 2 refine yj ?_
 refine yj ?_ (hs := by exact yo rfl);refine yj ?_;refine yj ?_ (hs := by exact zg (n := 2) rfl rfl hx rfl rfl (by decide) rfl TyK.h);refine yj ?_;refine yj ?_ (hs := by exact yo rfl);iterate 2 refine yj ?_
 refine zj (zcW x.Dur u) ?_;iterate 3 refine yj ?_
 refine yj ?_ (hs := by exact yo rfl);refine yj ?_;refine zbe 12 ⟨[(0, .ptr 2000001 12 i 0), (1, .ptr 2000001 12 i 8), (2, .ptr 2000003 0 0 0), (6, iv (subE x.Dur u)), (7, iv 0)], [(1000001, .hold vs [.ptr 2000003 0 0 0, .ptr 2000000 0 0 0, .own 2000001, .mp 2000002]), (2000003, .box [.ptr 2000000 0 0 0] 135), (2000000, .box [.own 2000001, iv k, iv u.N, iv u.D, .mp 2000002] 141), (2000001, .row itE (l.set i { x with Dur := subV x.Dur u }) 62 12), (2000002, .mpb (fun i : Int => .int .i64 i) AV.bool (L))]⟩ (fun Q hQ => ?_) (fun Q hQ => ?_) ?_
 ·refine yi (hs := zf (n := 2) x { x with Dur := subV x.Dur u } rfl rfl hx (fun _ => rfl) (by decide) rfl rfl rfl (by decide) rfl rfl rfl TyK.h) ?_;refine ya ?_;exact ze yx hQ
 ·refine yi (hs := zf (n := 2) x { x with Dur := subV x.Dur u } rfl rfl hx (fun _ => rfl) (by decide) rfl rfl rfl (by decide) rfl rfl rfl TyK.h) ?_;iterate 2 refine ya ?_
  exact ze yx hQ
 apply Ex.nil;apply yd;refine zi [23,24,25,26,27,28,29,30,31,32,33,34,35] [0,0,2,6,0,16,48,112,254,510,1022,1022,2047,6143,16383] mo ?_;iterate 2 refine yj ?_
 refine yj ?_ (hs := by exact yo rfl);refine yj ?_ (hs := by exact zg (n := 2) rfl rfl hx1 rfl rfl (by decide) rfl TyK.h);refine yj ?_;refine yj ?_ (hs := by exact yo rfl);iterate 2 refine yj ?_
 refine zj (zbp x.Before u) ?_;iterate 3 refine yj ?_
 refine yj ?_ (hs := by exact yo rfl);refine zbe 11 ⟨[(6, iv (subE x.Dur u)), (7, iv (addE x.Before u))], [(1000001, .hold vs [.ptr 2000003 0 0 0, .ptr 2000000 0 0 0, .own 2000001, .mp 2000002]), (2000003, .box [.ptr 2000000 0 0 0] 135), (2000000, .box [.own 2000001, iv k, iv u.N, iv u.D, .mp 2000002] 141), (2000001, .row itE ((l.set i { x with Dur := subV x.Dur u }).set i (zal u x)) 62 12), (2000002, .mpb (fun i : Int => .int .i64 i) AV.bool (L))]⟩ (fun Q hQ => ?_) (fun Q hQ => ?_) ?_
 ·refine yi (hs := zf (n := 2) { x with Dur := subV x.Dur u } (zal u x) rfl rfl hx1 (fun _ => rfl) (by decide) rfl rfl rfl (by decide) rfl rfl rfl TyK.h) ?_;refine ya ?_;exact ze yx hQ
 ·refine yi (hs := zf (n := 2) { x with Dur := subV x.Dur u } (zal u x) rfl rfl hx1 (fun _ => rfl) (by decide) rfl rfl rfl (by decide) rfl rfl rfl TyK.h) ?_;iterate 2 refine ya ?_
  exact ze yx hQ
 apply yn;iterate 2 refine ya ?_
 refine ya (hs := by exact zlp rfl rfl) ?_;refine ye ?_;refine X.ret ?_;refine zcC (st' := ⟨[(5, iv (max (subE x.Dur u) (addE x.Before u)))], [(1000001, .hold vs [.ptr 2000003 0 0 0, .ptr 2000000 0 0 0, .own 2000001, .mp 2000002]), (2000003, .box [.ptr 2000000 0 0 0] 135), (2000000, .box [.own 2000001, iv k, iv u.N, iv u.D, .mp 2000002] 141), (2000001, .row itE (l.set i (zal u x)) 62 12), (2000002, .mpb (fun i : Int => .int .i64 i) AV.bool (L))]⟩) (by first | exact yl | exact yx) ?_;refine zlC.mk [(5, iv (max (subE x.Dur u) (addE x.Before u)))] [] (.inr rfl) (.one (.tmp rfl (LeV.eq ?_)));all_goals (rfl)
end Go.Rse
namespace Go.Rse
open Go Go.Proofs
attribute [local irreducible] Pur yK yM Ex X Fn Imp LeV LeB FnO It yW FnW FnOW
def chA (u : Tm) (s : Sgm) (c : Int) (l : List Ite) : List Ite := if c = 1 \/ c = 3 then upI l s.Left (zag u) else l
def chB (u : Tm) (s : Sgm) (c : Int) (l : List Ite) : List Ite := if c = 2 \/ c = 3 then upI (chA u s c l) s.Right (zal u) else chA u s c l
theorem zje (u : Tm) (s : Sgm) (c : Int) (l : List Ite) : (chA u s c l).length = l.length := by unfold chA; split <;> simp [zfo]
theorem zlL (u : Tm) (s : Sgm) (c : Int) (l : List Ite) : (chB u s c l).length = l.length := by unfold chB; split <;> simp [zfo, zje]
theorem zlM (u : Tm) (s : Sgm) (c : Int) (l : List Ite) : chN u s c l = if c = 4 then upI (chB u s c l) (s.To - 1) dblI else chB u s c l := rfl
def cEa (u : Tm) (s : Sgm) (c : Int) (l : List Ite) : Int := if c = 1 \/ c = 3 then max 0 (max (subE (itg l s.Left).Dur u) (addE (itg l s.Left).After u)) else 0
def cEb (u : Tm) (s : Sgm) (c : Int) (l : List Ite) : Int := if c = 2 \/ c = 3 then max (cEa u s c l) (max (subE (itg (chA u s c l) s.Right).Dur u) (addE (itg (chA u s c l) s.Right).Before u)) else cEa u s c l
def cEc (u : Tm) (s : Sgm) (c : Int) (l : List Ite) : Int := if c = 4 then addE (itg (chB u s c l) (s.To - 1)).Dur (itg (chB u s c l) (s.To - 1)).Dur else cEb u s c l
attribute [local irreducible] addV addE subV subE chA chB chN chL cEa cEb cEc
set_option maxHeartbeats 4000000 in
theorem zcf (l : List Ite) (k : Int) (u : Tm) (L : List (Int × Bool)) (s : Sgm) (c : Int) (hs : SgB l.length s) (hc : ChOk s c) (hl : l.length <= 1000000) : FnO Tryz.prog 168 [.ptr 2000000 0 0 0, smA s, iv c] [(2000000, .box [.own 2000001, iv k, iv u.N, iv u.D, .mp 2000002] 141), (2000001, .row itE (l) 62 12), (2000002, .mpb (fun i : Int => .int .i64 i) AV.bool (L))] [2000000, 2000001, 2000002] (iv (cEc u s c l)) [(2000000, .box [.own 2000001, iv k, iv u.N, iv u.D, .mp 2000002] 141), (2000001, .row itE (chN u s c l) 62 12), (2000002, .mpb (fun i : Int => .int .i64 i) AV.bool (chL s c L))] := by
 have f0 := hs.f0;have ft := hs.ft;have tn := hs.tn;have lf := hs.lf;have rt := hs.rt;have hAl := zje u s c l;have hBl := zlL u s c l;refine FnO.introX (ts := [(0, .ptr 2000000 0 0 0), (1, smA s), (2, iv c)]) (rv := [.tmp 6]) (n := 98) (cs := [.ptr 2000000 0 0 0, .own 2000001, .mp 2000002]) (by kernel_rfl) Tryz.func168 rfl Tryz.ntmps168 rfl rfl (by simp) rfl rfl rfl rfl (fun g w d vs => ?_);apply yb;refine zeH ?_;refine yH ?_;refine ya ?_;apply yn;iterate 2 refine ya ?_
 apply yn;refine ye ?_;refine zc6 ⟨[(2, iv c), (3, .ptr 3 0 0 0), (4, .ptr 4 0 0 0), (7, .fn 229 [.ptr 3 0 0 0]), (8, iv (cEa u s c l))], [(1000001, .hold vs [.ptr 2000000 0 0 0, .own 2000001, .mp 2000002]), (2000000, .box [.own 2000001, iv k, iv u.N, iv u.D, .mp 2000002] 141), (2000001, .row itE (chA u s c l) 62 12), (2000002, .mpb (fun i : Int => .int .i64 i) AV.bool (L)), (3, .box [.ptr 2000000 0 0 0] 135), (4, .box (smE s) 104)]⟩ (fun hJ5 => ?_) ?_
 ·apply yb;iterate 2 refine ya ?_
  refine ExF.at 2 ?_;refine yC ?_;iterate 2 refine ExF.gi ?_
  refine yA ?_;refine ye ?_;refine yk rfl ?_ ?_<;>intro hc1
  ·have h00 := hc.lf hc1;have hx := zcD (l := l) (i := s.Left) h00 lf;have hrow : l.set s.Left.toNat (zag u (itg l s.Left)) = chA u s c l := by unfold chA; rw [if_pos hc1]; rfl
   have hev : max 0 (max (subE (itg l s.Left).Dur u) (addE (itg l s.Left).After u)) = cEa u s c l := by unfold cEa; rw [if_pos hc1]
   refine X.drawQ [⟨0, 17, iv 0, []⟩, ⟨1, 18, .fn 229 [.ptr 3 0 0 0], []⟩, ⟨2, 19, .ptr 2000000 0 0 0, []⟩, ⟨3, 20, .ptr 2000000 0 0 0, [2]⟩, ⟨4, 21, .ptr 2000000 0 0 0, [2, 3]⟩, ⟨5, 22, .ptr 2000000 0 0 0, [2, 3, 4]⟩, ⟨6, 23, .own 2000001, [2, 3, 4, 5]⟩, ⟨7, 24, .ptr 4 0 0 2, []⟩, ⟨8, 25, iv s.Left, [7]⟩, ⟨9, 26, .ptr 2000001 12 s.Left.toNat 0, [2, 3, 4, 7, 5, 8, 6]⟩, ⟨10, 27, .ptr 2000000 0 0 0, []⟩, ⟨11, 28, .ptr 2000000 0 0 0, [10]⟩, ⟨12, 29, .ptr 2000000 0 0 0, [10, 11]⟩, ⟨13, 30, .ptr 2000000 0 0 0, [10, 11, 12]⟩, ⟨14, 31, .own 2000001, [10, 11, 12, 13]⟩, ⟨15, 32, .ptr 4 0 0 2, []⟩, ⟨16, 33, iv s.Left, [15]⟩, ⟨17, 34, .ptr 2000001 12 s.Left.toNat 0, [10, 11, 12, 15, 13, 16, 14]⟩, ⟨18, 35, .ptr 2000001 12 s.Left.toNat 10, [10, 11, 12, 15, 13, 16, 14, 17]⟩] [(19, [10, 11, 2, 12, 3, 15, 13, 4, 16, 14, 7, 5, 17, 8, 6, 18, 9, 1]), (20, [10, 11, 2, 12, 3, 15, 13, 4, 16, 14, 7, 5, 17, 8, 6, 18, 9, 1, 19, 0]), (21, [18, 17, 16, 15, 14, 13, 12, 11, 10, 9, 8, 7, 6, 5, 4, 3, 2, 1, 0, 19, 20])] (fun j => match j with | 0 => ⟨[(2, iv c), (3, .ptr 3 0 0 0), (4, .ptr 4 0 0 0), (7, .fn 229 [.ptr 3 0 0 0]), (8, iv 0)], [(1000001, .hold vs [.ptr 2000000 0 0 0, .own 2000001, .mp 2000002]), (2000000, .box [.own 2000001, iv k, iv u.N, iv u.D, .mp 2000002] 141), (2000001, .row itE (l) 62 12), (2000002, .mpb (fun i : Int => .int .i64 i) AV.bool (L)), (3, .box [.ptr 2000000 0 0 0] 135), (4, .box (smE s) 104)]⟩ | 1 => ⟨[(2, iv c), (3, .ptr 3 0 0 0), (4, .ptr 4 0 0 0), (7, .fn 229 [.ptr 3 0 0 0]), (8, iv 0), (36, iv (max (subE (itg l s.Left).Dur u) (addE (itg l s.Left).After u)))], [(1000001, .hold vs [.ptr 2000000 0 0 0, .own 2000001, .mp 2000002]), (2000000, .box [.own 2000001, iv k, iv u.N, iv u.D, .mp 2000002] 141), (2000001, .row itE (l.set s.Left.toNat (zag u (itg l s.Left))) 62 12), (2000002, .mpb (fun i : Int => .int .i64 i) AV.bool (L)), (3, .box [.ptr 2000000 0 0 0] 135), (4, .box (smE s) 104)]⟩ | 2 => ⟨[(2, iv c), (3, .ptr 3 0 0 0), (4, .ptr 4 0 0 0), (7, .fn 229 [.ptr 3 0 0 0]), (8, iv 0), (36, iv (max (subE (itg l s.Left).Dur u) (addE (itg l s.Left).After u))), (37, iv (max 0 (max (subE (itg l s.Left).Dur u) (addE (itg l s.Left).After u))))], [(1000001, .hold vs [.ptr 2000000 0 0 0, .own 2000001, .mp 2000002]), (2000000, .box [.own 2000001, iv k, iv u.N, iv u.D, .mp 2000002] 141), (2000001, .row itE (l.set s.Left.toNat (zag u (itg l s.Left))) 62 12), (2000002, .mpb (fun i : Int => .int .i64 i) AV.bool (L)), (3, .box [.ptr 2000000 0 0 0] 135), (4, .box (smE s) 104)]⟩ | _ => ⟨[(2, iv c), (3, .ptr 3 0 0 0), (4, .ptr 4 0 0 0), (7, .fn 229 [.ptr 3 0 0 0]), (8, iv (max 0 (max (subE (itg l s.Left).Dur u) (addE (itg l s.Left).After u))))], [(1000001, .hold vs [.ptr 2000000 0 0 0, .own 2000001, .mp 2000002]), (2000000, .box [.own 2000001, iv k, iv u.N, iv u.D, .mp 2000002] 141), (2000001, .row itE (l.set s.Left.toNat (zag u (itg l s.Left))) 62 12), (2000002, .mpb (fun i : Int => .int .i64 i) AV.bool (L)), (3, .box [.ptr 2000000 0 0 0] 135), (4, .box (smE s) 104)]⟩) mo (by kernel_rfl) (zE (yl)) (fun j hj => ?_) (fun j c hc β hβ => ?_) ?_
   ·rcases j with _ | _ | _ | _ | j
    ·exact yS
    ·exact yS
    ·exact yS
    ·exact yS
    ·exact absurd (show j + 4 <= 3 from hj) (by omega)
   ·rcases j with _ | _ | _ | j
    ·obtain rfl : (19, [10, 11, 2, 12, 3, 15, 13, 4, 16, 14, 7, 5, 17, 8, 6, 18, 9, 1]) = c := by injection hc
     refine yw rfl (yG (st0 := ⟨[(17, .ifb (β 0) (iv 0)), (18, .fn 229 [.ptr 3 0 0 0]), (19, .ptr 2000000 0 0 0), (20, .ptr 2000000 0 0 0), (21, .ptr 2000000 0 0 0), (22, .ptr 2000000 0 0 0), (23, .own 2000001), (24, .ptr 4 0 0 2), (25, iv s.Left), (26, .ptr 2000001 12 s.Left.toNat 0), (27, .ptr 2000000 0 0 0), (28, .ptr 2000000 0 0 0), (29, .ptr 2000000 0 0 0), (30, .ptr 2000000 0 0 0), (31, .own 2000001), (32, .ptr 4 0 0 2), (33, iv s.Left), (34, .ptr 2000001 12 s.Left.toNat 0), (35, .ptr 2000001 12 s.Left.toNat 10), (2, iv c), (3, .ptr 3 0 0 0), (4, .ptr 4 0 0 0), (7, .fn 229 [.ptr 3 0 0 0]), (8, iv 0)], [(1000001, .hold vs [.ptr 2000000 0 0 0, .own 2000001, .mp 2000002]), (2000000, .box [.own 2000001, iv k, iv u.N, iv u.D, .mp 2000002] 141), (2000001, .row itE (l) 62 12), (2000002, .mpb (fun i : Int => .int .i64 i) AV.bool (L)), (3, .box [.ptr 2000000 0 0 0] 135), (4, .box (smE s) 104)]⟩) (yE) ?_);refine yq (zqK [(2000003, 3), (2000000, 2000000), (2000001, 2000001), (2000002, 2000002)] (zdc l k u L s.Left.toNat (itg l s.Left) hx)) (yE)
    ·obtain rfl : (20, [10, 11, 2, 12, 3, 15, 13, 4, 16, 14, 7, 5, 17, 8, 6, 18, 9, 1, 19, 0]) = c := by injection hc
     refine yw rfl (yG (st0 := ⟨[(17, iv 0), (18, .fn 229 [.ptr 3 0 0 0]), (19, .ptr 2000000 0 0 0), (20, .ptr 2000000 0 0 0), (21, .ptr 2000000 0 0 0), (22, .ptr 2000000 0 0 0), (23, .own 2000001), (24, .ptr 4 0 0 2), (25, iv s.Left), (26, .ptr 2000001 12 s.Left.toNat 0), (27, .ptr 2000000 0 0 0), (28, .ptr 2000000 0 0 0), (29, .ptr 2000000 0 0 0), (30, .ptr 2000000 0 0 0), (31, .own 2000001), (32, .ptr 4 0 0 2), (33, iv s.Left), (34, .ptr 2000001 12 s.Left.toNat 0), (35, .ptr 2000001 12 s.Left.toNat 10), (2, iv c), (3, .ptr 3 0 0 0), (4, .ptr 4 0 0 0), (7, .fn 229 [.ptr 3 0 0 0]), (8, iv 0), (36, iv (max (subE (itg l s.Left).Dur u) (addE (itg l s.Left).After u)))], [(1000001, .hold vs [.ptr 2000000 0 0 0, .own 2000001, .mp 2000002]), (2000000, .box [.own 2000001, iv k, iv u.N, iv u.D, .mp 2000002] 141), (2000001, .row itE (l.set s.Left.toNat (zag u (itg l s.Left))) 62 12), (2000002, .mpb (fun i : Int => .int .i64 i) AV.bool (L)), (3, .box [.ptr 2000000 0 0 0] 135), (4, .box (smE s) 104)]⟩) (yE) ?_);refine yq (yD (Pur.stepA (zlp rfl rfl)) rfl rfl) (yE)
    ·obtain rfl : (21, [18, 17, 16, 15, 14, 13, 12, 11, 10, 9, 8, 7, 6, 5, 4, 3, 2, 1, 0, 19, 20]) = c := by injection hc
     refine yw rfl (yG (st0 := ⟨[(17, iv 0), (18, .fn 229 [.ptr 3 0 0 0]), (19, .ptr 2000000 0 0 0), (20, .ptr 2000000 0 0 0), (21, .ptr 2000000 0 0 0), (22, .ptr 2000000 0 0 0), (23, .own 2000001), (24, .ptr 4 0 0 2), (25, iv s.Left), (26, .ptr 2000001 12 s.Left.toNat 0), (27, .ptr 2000000 0 0 0), (28, .ptr 2000000 0 0 0), (29, .ptr 2000000 0 0 0), (30, .ptr 2000000 0 0 0), (31, .own 2000001), (32, .ptr 4 0 0 2), (33, iv s.Left), (34, .ptr 2000001 12 s.Left.toNat 0), (35, .ptr 2000001 12 s.Left.toNat 10), (2, iv c), (3, .ptr 3 0 0 0), (4, .ptr 4 0 0 0), (7, .fn 229 [.ptr 3 0 0 0]), (8, iv 0), (36, iv (max (subE (itg l s.Left).Dur u) (addE (itg l s.Left).After u))), (37, iv (max 0 (max (subE (itg l s.Left).Dur u) (addE (itg l s.Left).After u))))], [(1000001, .hold vs [.ptr 2000000 0 0 0, .own 2000001, .mp 2000002]), (2000000, .box [.own 2000001, iv k, iv u.N, iv u.D, .mp 2000002] 141), (2000001, .row itE (l.set s.Left.toNat (zag u (itg l s.Left))) 62 12), (2000002, .mpb (fun i : Int => .int .i64 i) AV.bool (L)), (3, .box [.ptr 2000000 0 0 0] 135), (4, .box (smE s) 104)]⟩) (yE) ?_);refine yq (yD (Pur.stepA yQ) rfl rfl) (yE)
    ·exact absurd hc (by simp)
   exact y3 yx hJ5
  ·have hrow : l = chA u s c l := by unfold chA; rw [if_neg (by omega)]
   have hev : 0 = cEa u s c l := by unfold cEa; rw [if_neg (by omega)]
   apply yf;exact y3 yx hJ5
 refine zc6 ⟨[(2, iv c), (3, .ptr 3 0 0 0), (4, .ptr 4 0 0 0), (7, .fn 229 [.ptr 3 0 0 0]), (8, iv (cEb u s c l))], [(1000001, .hold vs [.ptr 2000000 0 0 0, .own 2000001, .mp 2000002]), (2000000, .box [.own 2000001, iv k, iv u.N, iv u.D, .mp 2000002] 141), (2000001, .row itE (chB u s c l) 62 12), (2000002, .mpb (fun i : Int => .int .i64 i) AV.bool (chL s c L)), (3, .box [.ptr 2000000 0 0 0] 135), (4, .box (smE s) 104)]⟩ (fun hJ8 => ?_) ?_
 ·apply yb;iterate 2 refine ya ?_
  refine ExF.at 2 ?_;refine yC ?_;iterate 2 refine ExF.gi ?_
  refine yA ?_;refine ye ?_;refine yk rfl ?_ ?_<;>intro hc2
  ·have h00 := hc.rt hc2;have hx := zcD (l := chA u s c l) (i := s.Right) h00 (by rw [hAl]; exact rt);have hrow : (chA u s c l).set s.Right.toNat (zal u (itg (chA u s c l) s.Right)) = chB u s c l := by unfold chB; rw [if_pos hc2]; rfl
   have hev : max (cEa u s c l) (max (subE (itg (chA u s c l) s.Right).Dur u) (addE (itg (chA u s c l) s.Right).Before u)) = cEb u s c l := by unfold cEb; rw [if_pos hc2]
   have hmp : mput s.Right true L = chL s c L := by unfold chL; rw [if_pos hc2]
   apply yd;refine X.drawQ [⟨0, 44, iv (cEa u s c l), []⟩, ⟨1, 45, .fn 229 [.ptr 3 0 0 0], []⟩, ⟨2, 46, .ptr 2000000 0 0 0, []⟩, ⟨3, 47, .ptr 2000000 0 0 0, [2]⟩, ⟨4, 48, .ptr 2000000 0 0 0, [2, 3]⟩, ⟨5, 49, .ptr 2000000 0 0 0, [2, 3, 4]⟩, ⟨6, 50, .own 2000001, [2, 3, 4, 5]⟩, ⟨7, 51, .ptr 4 0 0 3, []⟩, ⟨8, 52, iv s.Right, [7]⟩, ⟨9, 53, .ptr 2000001 12 s.Right.toNat 0, [2, 3, 4, 7, 5, 8, 6]⟩, ⟨10, 54, .ptr 2000000 0 0 0, []⟩, ⟨11, 55, .ptr 2000000 0 0 0, [10]⟩, ⟨12, 56, .ptr 2000000 0 0 0, [10, 11]⟩, ⟨13, 57, .ptr 2000000 0 0 0, [10, 11, 12]⟩, ⟨14, 58, .own 2000001, [10, 11, 12, 13]⟩, ⟨15, 59, .ptr 4 0 0 3, []⟩, ⟨16, 60, iv s.Right, [15]⟩, ⟨17, 61, .ptr 2000001 12 s.Right.toNat 0, [10, 11, 12, 15, 13, 16, 14]⟩, ⟨18, 62, .ptr 2000001 12 s.Right.toNat 8, [10, 11, 12, 15, 13, 16, 14, 17]⟩] [(19, [10, 11, 2, 12, 3, 15, 13, 4, 16, 14, 7, 5, 17, 8, 6, 18, 9, 1]), (20, [10, 11, 2, 12, 3, 15, 13, 4, 16, 14, 7, 5, 17, 8, 6, 18, 9, 1, 19, 0]), (21, [18, 17, 16, 15, 14, 13, 12, 11, 10, 9, 8, 7, 6, 5, 4, 3, 2, 1, 0, 19, 20])] (fun j => match j with | 0 => ⟨[(2, iv c), (3, .ptr 3 0 0 0), (4, .ptr 4 0 0 0), (7, .fn 229 [.ptr 3 0 0 0]), (8, iv (cEa u s c l))], [(1000001, .hold vs [.ptr 2000000 0 0 0, .own 2000001, .mp 2000002]), (2000000, .box [.own 2000001, iv k, iv u.N, iv u.D, .mp 2000002] 141), (2000001, .row itE (chA u s c l) 62 12), (2000002, .mpb (fun i : Int => .int .i64 i) AV.bool (L)), (3, .box [.ptr 2000000 0 0 0] 135), (4, .box (smE s) 104)]⟩ | 1 => ⟨[(2, iv c), (3, .ptr 3 0 0 0), (4, .ptr 4 0 0 0), (7, .fn 229 [.ptr 3 0 0 0]), (8, iv (cEa u s c l)), (63, iv (max (subE (itg (chA u s c l) s.Right).Dur u) (addE (itg (chA u s c l) s.Right).Before u)))], [(1000001, .hold vs [.ptr 2000000 0 0 0, .own 2000001, .mp 2000002]), (2000000, .box [.own 2000001, iv k, iv u.N, iv u.D, .mp 2000002] 141), (2000001, .row itE ((chA u s c l).set s.Right.toNat (zal u (itg (chA u s c l) s.Right))) 62 12), (2000002, .mpb (fun i : Int => .int .i64 i) AV.bool (L)), (3, .box [.ptr 2000000 0 0 0] 135), (4, .box (smE s) 104)]⟩ | 2 => ⟨[(2, iv c), (3, .ptr 3 0 0 0), (4, .ptr 4 0 0 0), (7, .fn 229 [.ptr 3 0 0 0]), (8, iv (cEa u s c l)), (63, iv (max (subE (itg (chA u s c l) s.Right).Dur u) (addE (itg (chA u s c l) s.Right).Before u))), (64, iv (max (cEa u s c l) (max (subE (itg (chA u s c l) s.Right).Dur u) (addE (itg (chA u s c l) s.Right).Before u))))], [(1000001, .hold vs [.ptr 2000000 0 0 0, .own 2000001, .mp 2000002]), (2000000, .box [.own 2000001, iv k, iv u.N, iv u.D, .mp 2000002] 141), (2000001, .row itE ((chA u s c l).set s.Right.toNat (zal u (itg (chA u s c l) s.Right))) 62 12), (2000002, .mpb (fun i : Int => .int .i64 i) AV.bool (L)), (3, .box [.ptr 2000000 0 0 0] 135), (4, .box (smE s) 104)]⟩ | _ => ⟨[(2, iv c), (3, .ptr 3 0 0 0), (4, .ptr 4 0 0 0), (7, .fn 229 [.ptr 3 0 0 0]), (8, iv (max (cEa u s c l) (max (subE (itg (chA u s c l) s.Right).Dur u) (addE (itg (chA u s c l) s.Right).Before u))))], [(1000001, .hold vs [.ptr 2000000 0 0 0, .own 2000001, .mp 2000002]), (2000000, .box [.own 2000001, iv k, iv u.N, iv u.D, .mp 2000002] 141), (2000001, .row itE ((chA u s c l).set s.Right.toNat (zal u (itg (chA u s c l) s.Right))) 62 12), (2000002, .mpb (fun i : Int => .int .i64 i) AV.bool (L)), (3, .box [.ptr 2000000 0 0 0] 135), (4, .box (smE s) 104)]⟩) mo (by kernel_rfl) (zE (yl)) (fun j hj => ?_) (fun j c hc β hβ => ?_) ?_
   ·rcases j with _ | _ | _ | _ | j
    ·exact yS
    ·exact yS
    ·exact yS
    ·exact yS
    ·exact absurd (show j + 4 <= 3 from hj) (by omega)
   ·rcases j with _ | _ | _ | j
    ·obtain rfl : (19, [10, 11, 2, 12, 3, 15, 13, 4, 16, 14, 7, 5, 17, 8, 6, 18, 9, 1]) = c := by injection hc
     refine yw rfl (yG (st0 := ⟨[(44, .ifb (β 0) (iv (cEa u s c l))), (45, .fn 229 [.ptr 3 0 0 0]), (46, .ptr 2000000 0 0 0), (47, .ptr 2000000 0 0 0), (48, .ptr 2000000 0 0 0), (49, .ptr 2000000 0 0 0), (50, .own 2000001), (51, .ptr 4 0 0 3), (52, iv s.Right), (53, .ptr 2000001 12 s.Right.toNat 0), (54, .ptr 2000000 0 0 0), (55, .ptr 2000000 0 0 0), (56, .ptr 2000000 0 0 0), (57, .ptr 2000000 0 0 0), (58, .own 2000001), (59, .ptr 4 0 0 3), (60, iv s.Right), (61, .ptr 2000001 12 s.Right.toNat 0), (62, .ptr 2000001 12 s.Right.toNat 8), (2, iv c), (3, .ptr 3 0 0 0), (4, .ptr 4 0 0 0), (7, .fn 229 [.ptr 3 0 0 0]), (8, iv (cEa u s c l))], [(1000001, .hold vs [.ptr 2000000 0 0 0, .own 2000001, .mp 2000002]), (2000000, .box [.own 2000001, iv k, iv u.N, iv u.D, .mp 2000002] 141), (2000001, .row itE (chA u s c l) 62 12), (2000002, .mpb (fun i : Int => .int .i64 i) AV.bool (L)), (3, .box [.ptr 2000000 0 0 0] 135), (4, .box (smE s) 104)]⟩) (yE) ?_);refine yq (zqK [(2000003, 3), (2000000, 2000000), (2000001, 2000001), (2000002, 2000002)] (zdd (chA u s c l) k u L s.Right.toNat (itg (chA u s c l) s.Right) hx)) (yE)
    ·obtain rfl : (20, [10, 11, 2, 12, 3, 15, 13, 4, 16, 14, 7, 5, 17, 8, 6, 18, 9, 1, 19, 0]) = c := by injection hc
     refine yw rfl (yG (st0 := ⟨[(44, iv (cEa u s c l)), (45, .fn 229 [.ptr 3 0 0 0]), (46, .ptr 2000000 0 0 0), (47, .ptr 2000000 0 0 0), (48, .ptr 2000000 0 0 0), (49, .ptr 2000000 0 0 0), (50, .own 2000001), (51, .ptr 4 0 0 3), (52, iv s.Right), (53, .ptr 2000001 12 s.Right.toNat 0), (54, .ptr 2000000 0 0 0), (55, .ptr 2000000 0 0 0), (56, .ptr 2000000 0 0 0), (57, .ptr 2000000 0 0 0), (58, .own 2000001), (59, .ptr 4 0 0 3), (60, iv s.Right), (61, .ptr 2000001 12 s.Right.toNat 0), (62, .ptr 2000001 12 s.Right.toNat 8), (2, iv c), (3, .ptr 3 0 0 0), (4, .ptr 4 0 0 0), (7, .fn 229 [.ptr 3 0 0 0]), (8, iv (cEa u s c l)), (63, iv (max (subE (itg (chA u s c l) s.Right).Dur u) (addE (itg (chA u s c l) s.Right).Before u)))], [(1000001, .hold vs [.ptr 2000000 0 0 0, .own 2000001, .mp 2000002]), (2000000, .box [.own 2000001, iv k, iv u.N, iv u.D, .mp 2000002] 141), (2000001, .row itE ((chA u s c l).set s.Right.toNat (zal u (itg (chA u s c l) s.Right))) 62 12), (2000002, .mpb (fun i : Int => .int .i64 i) AV.bool (L)), (3, .box [.ptr 2000000 0 0 0] 135), (4, .box (smE s) 104)]⟩) (yE) ?_);refine yq (yD (Pur.stepA (zlp rfl rfl)) rfl rfl) (yE)
    ·obtain rfl : (21, [18, 17, 16, 15, 14, 13, 12, 11, 10, 9, 8, 7, 6, 5, 4, 3, 2, 1, 0, 19, 20]) = c := by injection hc
     refine yw rfl (yG (st0 := ⟨[(44, iv (cEa u s c l)), (45, .fn 229 [.ptr 3 0 0 0]), (46, .ptr 2000000 0 0 0), (47, .ptr 2000000 0 0 0), (48, .ptr 2000000 0 0 0), (49, .ptr 2000000 0 0 0), (50, .own 2000001), (51, .ptr 4 0 0 3), (52, iv s.Right), (53, .ptr 2000001 12 s.Right.toNat 0), (54, .ptr 2000000 0 0 0), (55, .ptr 2000000 0 0 0), (56, .ptr 2000000 0 0 0), (57, .ptr 2000000 0 0 0), (58, .own 2000001), (59, .ptr 4 0 0 3), (60, iv s.Right), (61, .ptr 2000001 12 s.Right.toNat 0), (62, .ptr 2000001 12 s.Right.toNat 8), (2, iv c), (3, .ptr 3 0 0 0), (4, .ptr 4 0 0 0), (7, .fn 229 [.ptr 3 0 0 0]), (8, iv (cEa u s c l)), (63, iv (max (subE (itg (chA u s c l) s.Right).Dur u) (addE (itg (chA u s c l) s.Right).Before u))), (64, iv (max (cEa u s c l) (max (subE (itg (chA u s c l) s.Right).Dur u) (addE (itg (chA u s c l) s.Right).Before u))))], [(1000001, .hold vs [.ptr 2000000 0 0 0, .own 2000001, .mp 2000002]), (2000000, .box [.own 2000001, iv k, iv u.N, iv u.D, .mp 2000002] 141), (2000001, .row itE ((chA u s c l).set s.Right.toNat (zal u (itg (chA u s c l) s.Right))) 62 12), (2000002, .mpb (fun i : Int => .int .i64 i) AV.bool (L)), (3, .box [.ptr 2000000 0 0 0] 135), (4, .box (smE s) 104)]⟩) (yE) ?_);refine yq (yD (Pur.stepA yQ) rfl rfl) (yE)
    ·exact absurd hc (by simp)
   refine zi [65,66,67,68,69,70] [0,1,3,7,0,16,63] mo ?_;refine yj ?_;refine yj ?_ (hs := by exact yo rfl);(iterate 4 refine yj ?_);refine yR ?_;refine zbC (zd4 (venc := AV.bool) true rfl rfl rfl rfl rfl znD zlK (fun _ _ => rfl)) ?_;apply Ex.nil;exact y3 yx hJ8
  ·have hrow : chA u s c l = chB u s c l := by unfold chB; rw [if_neg (by omega)]
   have hev : cEa u s c l = cEb u s c l := by unfold cEb; rw [if_neg (by omega)]
   have hmp : L = chL s c L := by unfold chL; rw [if_neg (by omega)]
   apply yf;exact y3 yx hJ8
 apply yd;apply yb;refine yh ?_;refine yk rfl ?_ ?_<;>intro hc3
 ·have h00 := hc.al hc3;have hx := zcD (l := chB u s c l) (i := s.To - 1) (by omega) (by omega);have hrow : (chB u s c l).set (s.To - 1).toNat (dblI (itg (chB u s c l) (s.To - 1))) = chN u s c l := by rw [zlM, if_pos hc3]; rfl
  have hev : addE (itg (chB u s c l) (s.To - 1)).Dur (itg (chB u s c l) (s.To - 1)).Dur = cEc u s c l := by unfold cEc; rw [if_pos hc3]
  apply yd;refine zi [9,73,74,75,76,77,78,79,80,81] [0,1,3,7,15,0,32,96,255,511] mo ?_;refine yj ?_;refine yj ?_ (hs := by exact yo rfl);iterate 8 refine yj ?_
  refine yR ?_;apply Ex.nil;refine zi [82,83,84,85,86,87,88,89,90,91,92,93,94,95,96] [0,0,2,6,14,0,32,96,224,510,1022,2046,2046,4095,12287,28671,65535] mo ?_;iterate 2 refine yj ?_
  refine yj ?_ (hs := by exact yo rfl);refine yj ?_;refine yj ?_ (hs := by exact zg (n := 2) rfl rfl hx rfl rfl (by decide) rfl TyK.h);refine yj ?_;refine yj ?_ (hs := by exact yo rfl);refine yj ?_;refine yj ?_ (hs := by exact zg (n := 2) rfl rfl hx rfl rfl (by decide) rfl TyK.h);refine zj (zbp (itg (chB u s c l) (s.To - 1)).Dur (itg (chB u s c l) (s.To - 1)).Dur) ?_;iterate 3 refine yj ?_
  refine yj ?_ (hs := by exact yo rfl);refine yj ?_;refine zbe 12 ⟨[(8, iv (addE (itg (chB u s c l) (s.To - 1)).Dur (itg (chB u s c l) (s.To - 1)).Dur))], [(1000001, .hold vs [.ptr 2000000 0 0 0, .own 2000001, .mp 2000002]), (2000000, .box [.own 2000001, iv k, iv u.N, iv u.D, .mp 2000002] 141), (2000001, .row itE ((chB u s c l).set (s.To - 1).toNat (dblI (itg (chB u s c l) (s.To - 1)))) 62 12), (2000002, .mpb (fun i : Int => .int .i64 i) AV.bool (chL s c L))]⟩ (fun Q hQ => ?_) (fun Q hQ => ?_) ?_
  ·refine yi (hs := zf (n := 2) (itg (chB u s c l) (s.To - 1)) (dblI (itg (chB u s c l) (s.To - 1))) rfl rfl hx (fun _ => rfl) (by decide) rfl rfl rfl (by decide) rfl rfl rfl TyK.h) ?_;refine ya ?_;exact ze yx hQ
  ·refine yi (hs := zf (n := 2) (itg (chB u s c l) (s.To - 1)) (dblI (itg (chB u s c l) (s.To - 1))) rfl rfl hx (fun _ => rfl) (by decide) rfl rfl rfl (by decide) rfl rfl rfl TyK.h) ?_;(iterate 2 refine ya ?_);exact ze yx hQ
  apply yn;refine yh ?_;refine X.ret ?_;refine zcC (st' := ⟨[(6, iv (cEc u s c l))], [(1000001, .hold vs [.ptr 2000000 0 0 0, .own 2000001, .mp 2000002]), (2000000, .box [.own 2000001, iv k, iv u.N, iv u.D, .mp 2000002] 141), (2000001, .row itE (chN u s c l) 62 12), (2000002, .mpb (fun i : Int => .int .i64 i) AV.bool (chL s c L))]⟩) (by exact yx) ?_;refine zlC.mk [(6, iv (cEc u s c l))] [] (.inr rfl) (.one (.tmp rfl (LeV.eq ?_)));all_goals (rfl)
 ·have hrow : chB u s c l = chN u s c l := by rw [zlM, if_neg hc3]
  have hev : cEb u s c l = cEc u s c l := by unfold cEc; rw [if_neg hc3]
  apply yf;apply yb;refine yh ?_;refine X.ret ?_;refine zcC (st' := ⟨[(6, iv (cEc u s c l))], [(1000001, .hold vs [.ptr 2000000 0 0 0, .own 2000001, .mp 2000002]), (2000000, .box [.own 2000001, iv k, iv u.N, iv u.D, .mp 2000002] 141), (2000001, .row itE (chN u s c l) 62 12), (2000002, .mpb (fun i : Int => .int .i64 i) AV.bool (chL s c L))]⟩) (by exact yx) ?_;refine zlC.mk [(6, iv (cEc u s c l))] [] (.inr rfl) (.one (.tmp rfl (LeV.eq ?_)));all_goals (rfl)
end Go.Rse
namespace Go.Rse
open Go Go.Proofs
attribute [local irreducible] Pur yK yM Ex X Fn Imp LeV LeB FnO It yW FnW FnOW
theorem zf8 {u : Tm} {k : Int} {S : List Sgm} {l : List Ite} {M : List Int} {n : Nat} : ∀ {n' : Nat}, okJ u k S l M n' = true -> n <= n' -> okJ u k S l M n = true
 | 0, h, hn => by have : n = 0 := by omega
                  subst this; exact h
 | n' + 1, h, hn => by
  by_cases e : n = n' + 1
  ·subst e; exact h
  ·have h' : (okJ u k S l M n' && decide (M.getD n' 0 ∈ alK u k S l M n')) = true := h;simp only [Bool.and_eq_true] at h';exact zf8 h'.1 (by omega)
theorem zj6 {u : Tm} {k : Int} {S : List Sgm} {l : List Ite} {M : List Int} {n : Nat} {s : Sgm} {c : Int} (hs : S[n]? = some s) (hc : M[n]? = some c) : okJ u k S l M (n + 1) = (okJ u k S l M n && decide (c ∈ alQ u k (stK u S l M n).1 (stK u S l M n).2 s)) := by
 have e1 : S.getD n default = s := by rw [List.getD_eq_getElem?_getD, hs]; rfl
 have e2 : M.getD n 0 = c := by rw [List.getD_eq_getElem?_getD, hc]; rfl
 show (okJ u k S l M n && decide (M.getD n 0 ∈ alK u k S l M n)) = _;unfold alK; rw [e1, e2]
theorem zj7 {u : Tm} {S : List Sgm} {l : List Ite} {M : List Int} {n : Nat} {s : Sgm} {c : Int} (hs : S[n]? = some s) (hc : M[n]? = some c) : chN u s c (stK u S l M n).1 = (stK u S l M (n + 1)).1 /\ chL s c (stK u S l M n).2 = (stK u S l M (n + 1)).2 := by
 have e1 : S.getD n default = s := by rw [List.getD_eq_getElem?_getD, hs]; rfl
 have e2 : M.getD n 0 = c := by rw [List.getD_eq_getElem?_getD, hc]; rfl
 rw [zk9, e1, e2]; exact ⟨rfl, rfl⟩
theorem zlN (u : Tm) (k : Int) (l : List Ite) (L : List (Int × Bool)) (s : Sgm) : (alQ u k l L s).length <= 5 := by
 unfold alQ alR;simp only [List.length_append];have h : ∀ (p : Prop) [Decidable p] (x : Int), (if p then [x] else []).length <= 1 := fun p _ x => by split <;> simp
 have h1 := h (s.Count.N % 3 = 0 \/ s.Free = true) 0;have h2 := h (s.Count.N % 3 = 1 /\ s.Count.D = 1 /\ poQ u k l L s = true) 1;have h3 := h (s.Count.N % 3 = 1 /\ s.Free = false /\ anQ u k l s = true) 2;have h4 := h (s.Count.N % 3 = 2 /\ s.Free = false /\ poQ u k l L s = true /\ anQ u k l s = true) 3;have h5 := h (s.Count.N % 3 = 2 /\ s.Free = false /\ atQ u k l s = true) 4;omega
theorem zjf {n n' : Nat} {s : Sgm} (h : SgB n s) (e : n' = n) : SgB n' s := e ▸ h
attribute [local irreducible] stK okJ alQ chN chL
set_option maxHeartbeats 4000000 in
theorem zbi (u : Tm) (k : Int) (S : List Sgm) (l : List Ite) (M : List Int) (hS : SgsOk k l S) (hN : ∀ s ∈ S, 0 <= s.Count.N) (hM : M.length <= S.length) (hl : l.length <= 1000000) (hSl : S.length <= 4000000) (k0 : -9223372036854775808 <= k) (k1 : k + 1 <= 9223372036854775807) (hok : okJ u k S l M M.length = true) : FnO Tryz.prog 95 [.ptr 2000000 0 0 0, smsA S, yg M] [(2000000, .box [.own 2000001, iv k, iv u.N, iv u.D, .mp 2000002] 141), (2000001, .row itE (l) 62 12), (2000002, .mpb (fun i : Int => .int .i64 i) AV.bool ([]))] [2000000, 2000001, 2000002] (.bool true) [(2000000, .box [.own 2000001, iv k, iv u.N, iv u.D, .mp 2000002] 141), (2000001, .row itE ((stK u S l M M.length).1) 62 12), (2000002, .mpb (fun i : Int => .int .i64 i) AV.bool ((stK u S l M M.length).2))] := by
 have h00 : (stK u S l M 0).1 = l := by unfold stK; rfl
 have h01 : (stK u S l M 0).2 = [] := by unfold stK; rfl
 have h02 := h00.symm;have h03 := h01.symm;refine FnO.introX (ts := [(0, .ptr 2000000 0 0 0), (1, smsA S), (2, yg M)]) (rv := [.tmp 6]) (n := 36) (cs := [.ptr 2000000 0 0 0, .own 2000001, .mp 2000002]) (by kernel_rfl) Tryz.func95 rfl Tryz.ntmps95 rfl rfl (by simp) rfl rfl rfl rfl (fun g w d vs => ?_);apply yb;refine ya ?_;apply yn;refine ya ?_;refine ya (hs := zis rfl) ?_;refine ye ?_;apply yd;apply yb;refine yp ?_;apply X.block
 refine y9 (ι := Nat) (fun (n : Nat) => [(0, .ptr 2000000 0 0 0), (1, smsA S), (7, .mth 168 2000000 0 0 0), (12, yg M), (13, iv M.length), (14, iv (n : Int))]) (fun (n : Nat) => [(1000001, .hold vs [.ptr 2000000 0 0 0, .own 2000001, .mp 2000002]), (2000000, .box [.own 2000001, iv k, iv u.N, iv u.D, .mp 2000002] 141), (2000001, .row itE ((stK u S l M n).1) 62 12), (2000002, .mpb (fun i : Int => .int .i64 i) AV.bool ((stK u S l M n).2))]) (fun (n : Nat) => n <= M.length) (fun (n : Nat) => M.length - n) 0 (fun n hk => ?_) (h0 := by
  exact zaw (by (repeat' (first | exact True.intro | (refine And.intro ⟨_, rfl, ?_⟩ ?_; (first | exact LeV.refl _ | exact LeV.any _ | exact LeB.refl _ | (refine LeV.eq ?_; simp; done) | (refine LeV.eq ?_; congr 1; omega) | (refine LeV.eq ?_; dsimp only; congr 1; omega) | (refine LeV.eq (congrArg (AV.int _) ?_); omega) | exact LeV.nils _ | exact LeB.row (by assumption) | (refine LeB.eq ?_; congr 1; omega) | (refine LeB.eq ?_; congr 1; simp only [cond_true, cond_false]; omega)))))) (by (repeat' (first | exact True.intro | (refine And.intro ⟨_, rfl, ?_⟩ ?_; (first | exact LeB.refl _ | exact LeB.row (by assumption) | exact LeB.eq (congrArg (fun z => Blk.mpb (fun i : Int => .int .i64 i) AV.bool z) h03) | exact LeB.eq (congrArg (fun z => Blk.mpb (fun i : Int => .int .i64 i) AV.bool z) hst2)))))))
 apply yb;refine ye ?_;apply yd;refine yk rfl ?_ ?_<;>intro hc1
 ·obtain ⟨s, hs⟩ : ∃ s, S[n]? = some s := ⟨_, lgg (by omega)⟩;have hs2 : S[(n : Int).toNat]? = some s := by simpa using hs
  obtain ⟨c, hc⟩ : ∃ c, M[n]? = some c := ⟨_, lgg (by omega)⟩;have hc2 : M[(n : Int).toNat]? = some c := by simpa using hc
  have hsl := zbv u S l M n;have hso := hS.all s (List.mem_of_getElem? hs);have hsb := zjf hso.b hsl;have hst0 := zj7 (u := u) (l := l) hs hc;have hst1 := hst0.1;have hst2 := hst0.2;have hsN := hN s (List.mem_of_getElem? hs);have hal := zlN u k (stK u S l M n).1 (stK u S l M n).2 s;have hoj := zj6 (u := u) (k := k) (l := l) hs hc
  have hmem : c ∈ alQ u k (stK u S l M n).1 (stK u S l M n).2 s := by
   have h := zf8 hok (show n + 1 <= M.length by omega);rw [hoj] at h; simpa using (Bool.and_eq_true_iff.1 h).2
  apply yf;apply yd;apply X.block;apply yb;refine y4 ?_;apply yd;apply yb;iterate 5 refine ya ?_
  refine Ex.stepA (zc8 (ι := Nat) (stF := fun b => ⟨[(19, .ept (fun _ : Unit => [.sl itE (stK u S l M n).1, iv k, iv u.N, iv u.D, .val (.map (some b))]) () 0), (23, smA s)], []⟩) 24 (fun g a w hr => znq (k := 2000002) rfl (fun b => (Imp.freeze (k := 2000001) rfl).trans ((y8 (k := 2000000) rfl rfl).trans yl)) (fun _ => rfl) (fun _ => rfl) hr) (fun b => zaK (stK u S l M n).1 k u b (stK u S l M n).2 s hsb (by omega) k0 k1 hsN)) rfl rfl ?_;refine ze (st' := ⟨[(0, .ptr 2000000 0 0 0), (1, smsA S), (7, .mth 168 2000000 0 0 0), (8, iv (n : Int)), (9, iv c), (12, yg M), (13, iv M.length), (14, iv (n : Int)), (24, yg (alQ u k (stK u S l M n).1 (stK u S l M n).2 s))], [(1000001, .hold vs [.ptr 2000000 0 0 0, .own 2000001, .mp 2000002]), (2000000, .box [.own 2000001, iv k, iv u.N, iv u.D, .mp 2000002] 141), (2000001, .row itE ((stK u S l M n).1) 62 12), (2000002, .mpb (fun i : Int => .int .i64 i) AV.bool ((stK u S l M n).2))]⟩) ((Imp.freeze (k := 24) rfl).trans yl) ?_;refine ya ?_;refine yr (yV (alQ u k (stK u S l M n).1 (stK u S l M n).2 s) c (by omega)) ?_;refine ye ?_;refine yk rfl ?_ ?_<;>intro hc2
  ·exact absurd hmem hc2
  apply yf;apply yc;iterate 6 refine ya ?_
  refine zbC (zpZ [(2000000, 2000000), (2000001, 2000001), (2000002, 2000002)] (zcf (stK u S l M n).1 k u (stK u S l M n).2 s c hsb (zfX hso.ft hmem) (by omega))) ?_;apply Ex.nil;apply yc;refine yh ?_;refine yL (n + 1) (hI := zaw (by (repeat' (first | exact True.intro | (refine And.intro ⟨_, rfl, ?_⟩ ?_; (first | exact LeV.refl _ | exact LeV.any _ | exact LeB.refl _ | (refine LeV.eq ?_; simp; done) | (refine LeV.eq ?_; congr 1; omega) | (refine LeV.eq ?_; dsimp only; congr 1; omega) | (refine LeV.eq (congrArg (AV.int _) ?_); omega) | exact LeV.nils _ | exact LeB.row (by assumption) | (refine LeB.eq ?_; congr 1; omega) | (refine LeB.eq ?_; congr 1; simp only [cond_true, cond_false]; omega)))))) (by (repeat' (first | exact True.intro | (refine And.intro ⟨_, rfl, ?_⟩ ?_; (first | exact LeB.refl _ | exact LeB.row (by assumption) | exact LeB.eq (congrArg (fun z => Blk.mpb (fun i : Int => .int .i64 i) AV.bool z) h03) | exact LeB.eq (congrArg (fun z => Blk.mpb (fun i : Int => .int .i64 i) AV.bool z) hst2)))))))
 ·have hn : n = M.length := by omega
  subst hn;apply X.exit;apply yb;refine ye ?_;refine X.ret ?_;refine zlC.mk [(6, .bool true)] [] (.inr rfl) (.one (.tmp rfl (LeV.eq ?_)));all_goals (rfl)
set_option maxHeartbeats 4000000 in
theorem zdt (u : Tm) (k : Int) (S : List Sgm) (l : List Ite) (M : List Int) (hS : SgsOk k l S) (hN : ∀ s ∈ S, 0 <= s.Count.N) (hM : M.length <= S.length) (hl : l.length <= 1000000) (hSl : S.length <= 4000000) (k0 : -9223372036854775808 <= k) (k1 : k + 1 <= 9223372036854775807) (hok : okJ u k S l M M.length = false) : FnO Tryz.prog 95 [.ptr 2000000 0 0 0, smsA S, yg M] [(2000000, .box [.own 2000001, iv k, iv u.N, iv u.D, .mp 2000002] 141), (2000001, .row itE (l) 62 12), (2000002, .mpb (fun i : Int => .int .i64 i) AV.bool ([]))] [] (.bool false) [] := by
 have h00 : (stK u S l M 0).1 = l := by unfold stK; rfl
 have h01 : (stK u S l M 0).2 = [] := by unfold stK; rfl
 have h02 := h00.symm;have h03 := h01.symm;refine FnO.introX (ts := [(0, .ptr 2000000 0 0 0), (1, smsA S), (2, yg M)]) (rv := [.tmp 6]) (n := 36) (cs := []) (by kernel_rfl) Tryz.func95 rfl Tryz.ntmps95 rfl rfl (by simp) rfl rfl rfl rfl (fun g w d vs => ?_);apply yb;refine ya ?_;apply yn;refine ya ?_;refine ya (hs := zis rfl) ?_;refine ye ?_;apply yd;apply yb;refine yp ?_;apply X.block
 refine y9 (ι := Nat) (fun (n : Nat) => [(0, .ptr 2000000 0 0 0), (1, smsA S), (7, .mth 168 2000000 0 0 0), (12, yg M), (13, iv M.length), (14, iv (n : Int))]) (fun (n : Nat) => [(1000001, .hold vs []), (2000000, .box [.own 2000001, iv k, iv u.N, iv u.D, .mp 2000002] 141), (2000001, .row itE ((stK u S l M n).1) 62 12), (2000002, .mpb (fun i : Int => .int .i64 i) AV.bool ((stK u S l M n).2))]) (fun (n : Nat) => n <= M.length /\ okJ u k S l M n = true) (fun (n : Nat) => M.length - n) 0 (fun n hk => ?_) (hJ := by
  exact ⟨by omega, by unfold okJ; rfl⟩) (h0 := by
  exact zaw (by (repeat' (first | exact True.intro | (refine And.intro ⟨_, rfl, ?_⟩ ?_; (first | exact LeV.refl _ | exact LeV.any _ | exact LeB.refl _ | (refine LeV.eq ?_; simp; done) | (refine LeV.eq ?_; congr 1; omega) | (refine LeV.eq ?_; dsimp only; congr 1; omega) | (refine LeV.eq (congrArg (AV.int _) ?_); omega) | exact LeV.nils _ | exact LeB.row (by assumption) | (refine LeB.eq ?_; congr 1; omega) | (refine LeB.eq ?_; congr 1; simp only [cond_true, cond_false]; omega)))))) (by (repeat' (first | exact True.intro | (refine And.intro ⟨_, rfl, ?_⟩ ?_; (first | exact LeB.refl _ | exact LeB.row (by assumption) | exact LeB.eq (congrArg (fun z => Blk.mpb (fun i : Int => .int .i64 i) AV.bool z) h03) | exact LeB.eq (congrArg (fun z => Blk.mpb (fun i : Int => .int .i64 i) AV.bool z) hst2)))))))
 obtain ⟨hk1, hk2⟩ := hk;apply yb;refine ye ?_;apply yd;refine yk rfl ?_ ?_<;>intro hc1
 ·obtain ⟨s, hs⟩ : ∃ s, S[n]? = some s := ⟨_, lgg (by omega)⟩;have hs2 : S[(n : Int).toNat]? = some s := by simpa using hs
  obtain ⟨c, hc⟩ : ∃ c, M[n]? = some c := ⟨_, lgg (by omega)⟩;have hc2 : M[(n : Int).toNat]? = some c := by simpa using hc
  have hsl := zbv u S l M n;have hso := hS.all s (List.mem_of_getElem? hs);have hsb := zjf hso.b hsl;have hst0 := zj7 (u := u) (l := l) hs hc;have hst1 := hst0.1;have hst2 := hst0.2;have hsN := hN s (List.mem_of_getElem? hs);have hal := zlN u k (stK u S l M n).1 (stK u S l M n).2 s;have hoj := zj6 (u := u) (k := k) (l := l) hs hc;apply yf;apply yd;apply X.block;apply yb;refine y4 ?_;apply yd;apply yb;iterate 5 refine ya ?_
  refine Ex.stepA (zc8 (ι := Nat) (stF := fun b => ⟨[(19, .ept (fun _ : Unit => [.sl itE (stK u S l M n).1, iv k, iv u.N, iv u.D, .val (.map (some b))]) () 0), (23, smA s)], []⟩) 24 (fun g a w hr => znq (k := 2000002) rfl (fun b => (Imp.freeze (k := 2000001) rfl).trans ((y8 (k := 2000000) rfl rfl).trans yl)) (fun _ => rfl) (fun _ => rfl) hr) (fun b => zaK (stK u S l M n).1 k u b (stK u S l M n).2 s hsb (by omega) k0 k1 hsN)) rfl rfl ?_;refine ze (st' := ⟨[(0, .ptr 2000000 0 0 0), (1, smsA S), (7, .mth 168 2000000 0 0 0), (8, iv (n : Int)), (9, iv c), (12, yg M), (13, iv M.length), (14, iv (n : Int)), (24, yg (alQ u k (stK u S l M n).1 (stK u S l M n).2 s))], [(1000001, .hold vs []), (2000000, .box [.own 2000001, iv k, iv u.N, iv u.D, .mp 2000002] 141), (2000001, .row itE ((stK u S l M n).1) 62 12), (2000002, .mpb (fun i : Int => .int .i64 i) AV.bool ((stK u S l M n).2))]⟩) ((Imp.freeze (k := 24) rfl).trans yl) ?_;refine ya ?_;refine yr (yV (alQ u k (stK u S l M n).1 (stK u S l M n).2 s) c (by omega)) ?_;refine ye ?_;refine yk rfl ?_ ?_<;>intro hc2
  ·apply yb;refine ye ?_;refine X.ret ?_;refine zlC.mk [(6, .bool false)] [(2000000, .box [.own 2000001, iv k, iv u.N, iv u.D, .mp 2000002] 141), (2000001, .row itE ((stK u S l M n).1) 62 12), (2000002, .mpb (fun i : Int => .int .i64 i) AV.bool ((stK u S l M n).2))] (.inr rfl) (.one (.tmp rfl (LeV.eq ?_)));all_goals (rfl)
  have hmem : c ∈ alQ u k (stK u S l M n).1 (stK u S l M n).2 s := hc2;apply yf;apply yc;iterate 6 refine ya ?_
  refine zbC (zpZ [(2000000, 2000000), (2000001, 2000001), (2000002, 2000002)] (zcf (stK u S l M n).1 k u (stK u S l M n).2 s c hsb (zfX hso.ft hmem) (by omega))) ?_;apply Ex.nil;apply yc;refine yh ?_
  refine yL (n + 1) (hJ := by
   exact ⟨by omega, by rw [hoj, hk2, decide_eq_true hmem]; rfl⟩) (hI := zaw (by (repeat' (first | exact True.intro | (refine And.intro ⟨_, rfl, ?_⟩ ?_; (first | exact LeV.refl _ | exact LeV.any _ | exact LeB.refl _ | (refine LeV.eq ?_; simp; done) | (refine LeV.eq ?_; congr 1; omega) | (refine LeV.eq ?_; dsimp only; congr 1; omega) | (refine LeV.eq (congrArg (AV.int _) ?_); omega) | exact LeV.nils _ | exact LeB.row (by assumption) | (refine LeB.eq ?_; congr 1; omega) | (refine LeB.eq ?_; congr 1; simp only [cond_true, cond_false]; omega)))))) (by (repeat' (first | exact True.intro | (refine And.intro ⟨_, rfl, ?_⟩ ?_; (first | exact LeB.refl _ | exact LeB.row (by assumption) | exact LeB.eq (congrArg (fun z => Blk.mpb (fun i : Int => .int .i64 i) AV.bool z) h03) | exact LeB.eq (congrArg (fun z => Blk.mpb (fun i : Int => .int .i64 i) AV.bool z) hst2)))))))
 ·have hn : n = M.length := by omega
  subst hn;exact absurd hk2 (by rw [hok]; decide)
end Go.Rse
namespace Go.Rse
open Go Go.Proofs
attribute [local irreducible] Pur yK yM Ex X Fn Imp LeV LeB FnO It yW FnW FnOW
theorem zaz (m : Mn) (k : Int) (l : List Ite) : (segV m k l).length <= 2 * l.length + 2 := by
 unfold segV;split
 ·rw [List.length_map, zdJ, zcX]; have := zco k l l.length; omega
 ·simp
attribute [local irreducible] stK okJ alQ chN chL segV segE apE apV unT
theorem zgx (m : Mn) (k : Int) (l : List Ite) (M : List Int) (h0 : -9223372036854775808 <= k) (h1 : k <= 9223372036854775807) (hl : l.length <= 1000000) (hM : M.length <= 4000000) (hE : ¬ segE m k l = 0) : Fn Tryz.prog 36 [mnA m, iv k, itsA l, yg M] (.tup [itsA [], iv (segE m k l)]) := by
 refine Fn.go Tryz.func36 Tryz.ntmps36 (fun g w d => ?_);apply yb;refine yH ?_;iterate 2 refine ya ?_
 apply yn;iterate 3 refine ya ?_
 refine yr (zf7 m k l h0 h1 hl hE) ?_;iterate 6 refine ya ?_
 refine ye ?_;apply yd;apply yb;refine yh ?_;refine yk rfl ?_ ?_<;>intro hc1
 ·apply yb;refine yp ?_;refine X.ret ?_;refine yu (yl (ts := [(8, itsA []), (9, iv (segE m k l))]) (hs := [])) ?_;refine yz ?_ ?_;all_goals (first | rfl | (simp_all; done))
 exact absurd hc1 hE
theorem zgy (m : Mn) (k : Int) (l : List Ite) (M : List Int) (h0 : -9223372036854775808 <= k) (h1 : k <= 9223372036854775807) (hl : l.length <= 1000000) (hM : M.length <= 4000000) (hE : segE m k l = 0) (hX : (!decide ((M.length : Int) = ((segV m k l).length : Int))) = true) : Fn Tryz.prog 36 [mnA m, iv k, itsA l, yg M] (.tup [itsA [], iv 2]) := by
 have hbl := zaz m k l;have hu := zgg (zcJ hE).1;have hSO := zdK hE;refine Fn.go Tryz.func36 Tryz.ntmps36 (fun g w d => ?_);apply yb;refine yH ?_;iterate 2 refine ya ?_
 apply yn;iterate 3 refine ya ?_
 refine zap [(36, 2000000), (30, 2000001), (34, 2000002)] (zaE m k l h0 h1 hl hE) ?_;iterate 6 refine ya ?_
 refine ye ?_;apply yd;apply yb;refine yh ?_;refine yk rfl ?_ ?_<;>intro hc1
 ·exact absurd rfl hc1
 apply yf;iterate 2 apply yd
 have hg5 : ((!decide ((M.length : Int) = ((segV m k l).length : Int))) == false) = false := by rw [hX]; rfl
 ·apply yc;iterate 6 refine ya ?_
  iterate 5 refine zbl ?_
  refine ye ?_;refine yk rfl ?_ ?_<;>intro hc2
  ·apply yb;refine yh ?_;refine X.ret ?_;refine yu (yl (ts := [(8, itsA []), (9, iv 2)]) (hs := [])) ?_;refine yz ?_ ?_;all_goals (first | rfl | (simp_all; done))
  first | (exact absurd hc2.2 (by decide)) | (cases hc2; done) | (exact absurd hc2 (by simp [hX])) | (simp [hX] at hc2; done) | (rcases hc2 with h | h <;> first | (cases h; done) | (exact absurd h (by simpa using hX)) | (simp [hX] at h; done) | (exact absurd h (by decide)))
theorem zgz (m : Mn) (k : Int) (l : List Ite) (M : List Int) (h0 : -9223372036854775808 <= k) (h1 : k <= 9223372036854775807) (hl : l.length <= 1000000) (hM : M.length <= 4000000) (hE : segE m k l = 0) (hX : (!decide ((M.length : Int) = ((segV m k l).length : Int))) = false) (hok : okJ (unT m k) k (segV m k l) l M M.length = false) (hN : ∀ s ∈ segV m k l, 0 <= s.Count.N) (hMS : M.length <= (segV m k l).length) : Fn Tryz.prog 36 [mnA m, iv k, itsA l, yg M] (.tup [itsA [], iv 2]) := by
 have hbl := zaz m k l;have hu := zgg (zcJ hE).1;have hSO := zdK hE;refine Fn.go Tryz.func36 Tryz.ntmps36 (fun g w d => ?_);apply yb;refine yH ?_;iterate 2 refine ya ?_
 apply yn;iterate 3 refine ya ?_
 refine zap [(36, 2000000), (30, 2000001), (34, 2000002)] (zaE m k l h0 h1 hl hE) ?_;iterate 6 refine ya ?_
 refine ye ?_;apply yd;apply yb;refine yh ?_;refine yk rfl ?_ ?_<;>intro hc1
 ·exact absurd rfl hc1
 apply yf;iterate 2 apply yd
 have hg5 : ((!decide ((M.length : Int) = ((segV m k l).length : Int))) == false) = true := by rw [hX]; rfl
 ·apply yc;iterate 6 refine ya ?_
  iterate 3 refine zS ?_
  refine zae rfl rfl hg5 ?_;refine zap [(2000000, 2000000), (2000001, 2000001), (2000002, 2000002)] (zdt (unT m k) k (segV m k l) l M hSO hN hMS hl (by omega) (by omega) (by omega) hok) ?_;refine zS ?_;refine ye ?_;refine yk rfl ?_ ?_<;>intro hc2
  ·apply yb;refine yh ?_;refine X.ret ?_;refine yu (yl (ts := [(8, itsA []), (9, iv 2)]) (hs := [])) ?_;refine yz ?_ ?_;all_goals (first | rfl | (simp_all; done))
  first | (exact absurd hc2.2 (by decide)) | (cases hc2; done) | (exact absurd hc2 (by simp [hX])) | (simp [hX] at hc2; done) | (rcases hc2 with h | h <;> first | (cases h; done) | (exact absurd h (by simpa using hX)) | (simp [hX] at h; done) | (exact absurd h (by decide)))
set_option maxHeartbeats 2000000 in
theorem zgA (m : Mn) (k : Int) (l : List Ite) (M : List Int) (h0 : -9223372036854775808 <= k) (h1 : k <= 9223372036854775807) (hl : l.length <= 1000000) (hM : M.length <= 4000000) (hE : segE m k l = 0) (hX : (!decide ((M.length : Int) = ((segV m k l).length : Int))) = false) (hok : okJ (unT m k) k (segV m k l) l M M.length = true) (hN : ∀ s ∈ segV m k l, 0 <= s.Count.N) (hMS : M.length <= (segV m k l).length) : Fn Tryz.prog 36 [mnA m, iv k, itsA l, yg M] (.tup [itsA (stK (unT m k) (segV m k l) l M M.length).1, iv 0]) := by
 have hbl := zaz m k l;have hu := zgg (zcJ hE).1;have hSO := zdK hE;refine Fn.go Tryz.func36 Tryz.ntmps36 (fun g w d => ?_);apply yb;refine yH ?_;iterate 2 refine ya ?_
 apply yn;iterate 3 refine ya ?_
 refine zap [(36, 2000000), (30, 2000001), (34, 2000002)] (zaE m k l h0 h1 hl hE) ?_;iterate 6 refine ya ?_
 refine ye ?_;apply yd;apply yb;refine yh ?_;refine yk rfl ?_ ?_<;>intro hc1
 ·exact absurd rfl hc1
 apply yf;iterate 2 apply yd
 have hg5 : ((!decide ((M.length : Int) = ((segV m k l).length : Int))) == false) = true := by rw [hX]; rfl
 ·apply yc;iterate 6 refine ya ?_
  iterate 3 refine zS ?_
  refine zae rfl rfl hg5 ?_;refine zap [(2000000, 2000000), (2000001, 2000001), (2000002, 2000002)] (zbi (unT m k) k (segV m k l) l M hSO hN hMS hl (by omega) (by omega) (by omega) hok) ?_;refine zS ?_;refine ye ?_;refine yk rfl ?_ ?_<;>intro hc2
  ·first | (exact absurd hc2.2 (by decide)) | (cases hc2; done) | (exact absurd hc2 (by simp [hX])) | (simp [hX] at hc2; done) | (rcases hc2 with h | h <;> first | (cases h; done) | (exact absurd h (by simpa using hX)) | (simp [hX] at h; done) | (exact absurd h (by decide)))
  apply yf;apply yb;refine ya ?_;refine ya ?_ (hs := by exact yo rfl);refine y4 ?_;refine X.ret ?_;refine yu (Imp.freeze (k := 2000001) rfl) ?_;refine yz ?_ ?_;all_goals (first | exact congrArg (fun z => yg z) hae | rfl)
end Go.Rse
