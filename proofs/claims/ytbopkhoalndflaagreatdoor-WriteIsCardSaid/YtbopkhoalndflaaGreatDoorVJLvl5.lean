/-
  Walks.
-/
import Derived.Test.YtbopkhoalndflaaGreatDoorVJLvl3
set_option linter.all false
namespace Go.Rse
open Go Go.Proofs Go.Proofs.Tryz
section
attribute [local irreducible] Pur yu yq Ex X Fn Imp LeV LeB FnO It yD FnW FnOW
def zlB (d : Tm) : ∀ (L : List Tm) (t : Tm), smF t (L ++ [d]) = smF t L ++ [addV (sumA t L) d]
 | [], t => rfl
 | x :: r, t => by
  show addV t x :: smF (addV t x) (r ++ [d]) = _;rw [zlB d r]; rfl
def zjE (d : Tm) : ∀ (L : List Tm) (t : Tm), sumA t (L ++ [d]) = addV (sumA t L) d
 | [], t => rfl
 | x :: r, t => by
  show sumA (addV t x) (r ++ [d]) = _;rw [zjE d r]; rfl
def zkA : ∀ (L : List Tm) (t : Tm), (smF t L).length = L.length
 | [], t => rfl
 | x :: r, t => by simp only [smF, wB, zkA r]
def fsP (l : List Ite) (n : Nat) : List Tm := smF ⟨0, 1⟩ ((drL l).take n)
def fsA (l : List Ite) (n : Nat) : Tm := sumA ⟨0, 1⟩ ((drL l).take n)
def zxi (l : List Ite) : [] = fsP l 0 := by unfold fsP; rw [vL]; rfl
def znd (l : List Ite) : [iv 0, iv 1] = tmE (fsA l 0) := by unfold fsA; rw [vL]; rfl
def zpH {l : List Ite} {n : Nat} {x : Ite} (h : l[n]? = some x) : tmE (addV (fsA l n) x.Dur) = tmE (fsA l (n + 1)) /\ fsP l n ++ [addV (fsA l n) x.Dur] = fsP l (n + 1) /\ (fsP l n).length <= n := by
 have Z : (drL l)[n]? = some x.Dur := by unfold drL; rw [jK, h]; rfl
 have ht : (drL l).take (n + 1) = (drL l).take n ++ [x.Dur] := by rw [jE, Z]; rfl
 have e1 : fsA l (n + 1) = addV (fsA l n) x.Dur := by unfold fsA; rw [ht, zjE]
 refine ⟨by rw [e1], ?_, ?_⟩
 ·unfold fsP fsA; rw [ht, zlB]
 ·unfold fsP; rw [zkA, jM]; omega
def zrN (l : List Ite) : fsP l l.length = fsL l := by
 unfold fsP fsL; rw [jY (by unfold drL; simp)]
theorem zhN (l : List Ite) : (fsL l).length = l.length := by unfold fsL; rw [zkA]; unfold drL; simp
def laP (a : Tm) (L : List Tm) (n : Nat) : List Tm := a :: (((L.take n).filter fun t => decide (subE a t = 0)).map fun t => subV a t)
def zxj (a : Tm) (L : List Tm) : [a] = laP a L 0 := by unfold laP; rw [vL]; rfl
def zxk {a : Tm} {L : List Tm} {n : Nat} {t : Tm} (h : L[n]? = some t) : (subE a t = 0 -> laP a L n ++ [subV a t] = laP a L (n + 1)) /\ (¬ subE a t = 0 -> laP a L n = laP a L (n + 1)) /\ (laP a L n).length <= n + 1 := by
 unfold laP;have ht : L.take (n + 1) = L.take n ++ [t] := by rw [jE, h]; rfl
 refine ⟨fun h0 => ?_, fun h0 => ?_, ?_⟩
 ·rw [ht, wU]; simp [h0]
 ·rw [ht, wU]; simp [h0]
 ·simp only [wB, jU];have := wM (fun t => decide (subE a t = 0)) (L.take n);rw [jM] at this; omega
def zrO {l : List Ite} (h : (fsL l).length = 0) : [] = lasL l := by
 have : fsL l = [] := jN h;unfold lasL; rw [this]; rfl
def zrP {l : List Ite} {a : Tm} (h : (fsL l)[(fsL l).length - 1]? = some a) : laP a ((fsL l).take (((fsL l).length : Int) - 1).toNat) ((fsL l).take (((fsL l).length : Int) - 1).toNat).length = lasL l := by
 rw [show (((fsL l).length : Int) - 1).toNat = (fsL l).length - 1 by omega];have Z : (fsL l).getLast? = some a := by rw [List.getLast?_eq_getElem?]; exact h
 unfold lasL; rw [Z];unfold laP;rw [jH, List.dropLast_eq_take]
structure SgB (n : Nat) (s : Sgm) : Prop where
 f0 : 0 <= s.From
 ft : s.From <= s.To
 tn : s.To <= n
 lf : s.Left < n
 rt : s.Right < n
def SgOk.b {k : Int} {l : List Ite} {s : Sgm} (h : SgOk k l s) : SgB l.length s := ⟨h.f0, h.ft, h.tl, by have := h.ft; have := h.tl; rcases h.lf with h | h <;> omega, by rcases h.rt with h | h <;> omega⟩
attribute [local irreducible] fsL fsP fsA lasL laP cmpV addV addE subV subE drL
def zfk (l : List Ite) (hl : l.length <= 1000000) : Fn prog 371 [itsA l] (tmsA (fsL l)) := by
 have T := zxi l;have Z := znd l;refine xV func371 ntmps371 (fun g w d => ?_);apply ye;refine ya ?_;apply yE;refine yh ?_;apply yg;refine xZ (yF tmE 83 2 3 200 rfl rfl) ?_;apply yi;refine ya ?_;refine zh ?_;refine xY ?_;apply k9;apply yg;apply ye;refine yy ?_;apply xS;refine zq (fun n => [(3, .own 200), (4, .ptr 4 0 0 0), (8, itsA l), (9, iv l.length), (10, iv (n : Int))]) (fun n => [(4, .box (tmE (fsA l n)) 83), (200, .row tmE (fsP l n) 83 2)]) l.length (fun n G => ?_) (h0 := by exact kL (by (repeat' (first | exact True.intro | (refine And.intro ⟨_, rfl, ?_⟩ ?_; (first | exact kB _ | exact kS _ | exact kA _ | (refine xR ?_; simp; done) | (refine xR ?_; congr 1; omega) | (refine xR ?_; dsimp only; congr 1; omega) | (refine xR (j5 (AV.int _) ?_); omega) | exact kC _ | exact kM (by assumption) | (refine kH ?_; congr 1; omega) | (refine kH ?_; congr 1; simp only [cond_true, cond_false]; omega)))))) (by (repeat' (first | exact True.intro | (refine And.intro ⟨_, rfl, ?_⟩ ?_; (first | exact kA _ | exact kM (by assumption) | exact kH (j5 (fun z => Blk.box z 83) Z) | exact kH (j5 (fun z => Blk.box z 83) V)))))));refine gd ?_ ?_<;>intro Q
 ·obtain ⟨x, hx⟩ : ∃ x, l[n]? = some x := ⟨_, lgg (by omega)⟩;have N : l[(n : Int).toNat]? = some x := by simpa using hx
  have U := zpH hx;obtain ⟨V, J, I⟩ := U;refine gc (zbd (fsA l n) x.Dur) ?_;refine yz tmE [addV (fsA l n) x.Dur] ?_;refine gq ?_;refine yw (n + 1) (hI := kL (by (repeat' (first | exact True.intro | (refine And.intro ⟨_, rfl, ?_⟩ ?_; (first | exact kB _ | exact kS _ | exact kA _ | (refine xR ?_; simp; done) | (refine xR ?_; congr 1; omega) | (refine xR ?_; dsimp only; congr 1; omega) | (refine xR (j5 (AV.int _) ?_); omega) | exact kC _ | exact kM (by assumption) | (refine kH ?_; congr 1; omega) | (refine kH ?_; congr 1; simp only [cond_true, cond_false]; omega)))))) (by (repeat' (first | exact True.intro | (refine And.intro ⟨_, rfl, ?_⟩ ?_; (first | exact kA _ | exact kM (by assumption) | exact kH (j5 (fun z => Blk.box z 83) Z) | exact kH (j5 (fun z => Blk.box z 83) V)))))))
 ·have H : n = l.length := by omega
  subst H;have he := zrN l;apply k8;apply yg;refine xZ (xP (k := 200) rfl) ?_;refine gq ?_;all_goals (first | exact j5 (fun z => tmsA z) he | exact zE he)
def zf9 (l : List Ite) (hl : l.length <= 1000000) : Fn prog 372 [itsA l] (tmsA (lasL l)) := by
 have N := zhN l;refine xV func372 ntmps372 (fun g w d => ?_);refine gc (zfk l hl) ?_;refine gd ?_ ?_<;>intro J
 ·have he := zrO (l := l) (by omega);apply ye;refine yh ?_;refine xU ?_;refine xQ (yd (ts := [(2, tmsA [])]) (hs := [])) ?_;refine gq ?_;all_goals (first | exact j5 (fun z => tmsA z) he | (rw [← he]; done))
 obtain ⟨a, Q⟩ : ∃ a, (fsL l)[(fsL l).length - 1]? = some a := ⟨_, lgg (by omega)⟩;have I : (fsL l)[((fsL l).length - 1 : Int).toNat]? = some a := by rw [show ((fsL l).length - 1 : Int).toNat = (fsL l).length - 1 by omega]; exact Q
 have H := zxj a ((fsL l).take (((fsL l).length : Int) - 1).toNat);have G : ((fsL l).take (((fsL l).length : Int) - 1).toNat).length <= l.length := by rw [jM]; omega
 refine gq ?_;refine yz tmE [a] ?_;refine gq ?_
 first
  | refine zY (zcs rfl rfl rfl sl50 ty83 (by omega) (by omega)) rfl ?_
  | refine zY (zde rfl rfl sl50 ty83 (fun _ => rfl) (by omega) (by omega)) rfl ?_
 refine yL ?_;apply xS;refine zq (fun n => [(4, .ptr 4 0 0 0), (5, .own 22), (27, tmsA ((fsL l).take (((fsL l).length : Int) - 1).toNat)), (28, iv ((fsL l).take (((fsL l).length : Int) - 1).toNat).length), (29, iv (n : Int))]) (fun n => [(4, .box (tmE a) 83), (22, .row tmE (laP a ((fsL l).take (((fsL l).length : Int) - 1).toNat) n) 83 2)]) (((fsL l).take (((fsL l).length : Int) - 1).toNat).length) (fun n hk => ?_);refine gd ?_ ?_<;>intro E
 ·obtain ⟨t, ht⟩ : ∃ t, ((fsL l).take (((fsL l).length : Int) - 1).toNat)[n]? = some t := ⟨_, lgg (by omega)⟩;have xT : ((fsL l).take (((fsL l).length : Int) - 1).toNat)[(n : Int).toNat]? = some t := by simpa using ht
  have T := zxk (a := a) ht;obtain ⟨Z, V, x4⟩ := T;refine gc (zcI a t) ?_;refine gd ?_ ?_<;>intro U
  ·have Z := Z U;refine gq ?_;refine yz tmE [subV a t] ?_;refine gq ?_;refine yw (n + 1) (hI := yk)
  ·have V := V U;refine gq ?_;refine yw (n + 1) (hI := yk)
 ·have hn : n = ((fsL l).take (((fsL l).length : Int) - 1).toNat).length := by omega
  subst hn;have he := zrP Q;apply k8;apply yg;refine xZ (xP (k := 22) rfl) ?_;refine gq ?_;all_goals (first | exact j5 (fun z => tmsA z) he | exact zE he)
def zbc (l : List Ite) (k : Int) (u : Tm) (b : Nat) (x : Ite) : Fn prog 369 [.ept (fun _ : Unit => [.sl itE l, iv k, iv u.N, iv u.D, .val (.map (some b))]) () 0, itA x] (.bool (lgQ u x)) := by
 refine xV func369 ntmps369 (fun g w d => ?_);refine gq ?_;refine yW [5,6,7,8,9,10,11,12,13,14,15,16] [0,1,0,4,12,28,63,127,255,255,511,2047] mo ?_;iterate 6 refine yb ?_
 refine yH (ziv x.Dur u) ?_;iterate 5 refine yb ?_
 refine yA ?_;refine gq ?_;all_goals rfl
def za0 (l : List Ite) (k : Int) (u : Tm) (b : Nat) (S : List Tm) (t : Tm) (Z : S.length <= 2000000) : Fn prog 370 [.ept (fun _ : Unit => [.sl itE l, iv k, iv u.N, iv u.D, .val (.map (some b))]) () 0, tmsA S, tmA t] (.bool (rcQ u S t)) := by
 refine xV func370 ntmps370 (fun g w d => ?_);refine gq ?_;refine yW [7,9,10,11,12,13,14,15,16,17] [0,0,2,6,14,31,63,127,127,0,767,2047] mo ?_;iterate 5 refine yb ?_
 refine yH (zbd t u) ?_;iterate 3 refine yb ?_
 refine ChM.step rfl rfl rfl (zu (k := 7) zc83) rfl ?_;refine ChM.lt 8 ?_ ?_
 ·refine xY ?_;refine ya ?_;apply yE;iterate 2 refine ya ?_
  refine xX 2 ?_;refine gq ?_;refine kK (zn S (addV t u) (by omega)) ?_;refine ge ?_;all_goals rfl
 ·refine xY ?_;iterate 2 refine ya ?_
  apply yE;iterate 2 refine ya ?_
  refine xX 2 ?_;refine gq ?_;refine kK (zn S (addV t u) (by omega)) ?_;refine ge ?_;all_goals rfl
end
section
attribute [local irreducible] Pur yu yq Ex X Fn Imp LeV LeB FnO It yD FnW FnOW
def zpI (l : List Ite) : (lasL l).length <= l.length := by
 have h := zhN l;unfold lasL;cases Z : (fsL l).getLast? with
 | none => simp
 | some a =>
  simp only [wB, jU];have := wM (fun t => decide (subE a t = 0)) (fsL l).dropLast;rw [List.length_dropLast] at this;have : (fsL l) ≠ [] := fun e => by rw [e] at Z; simp at Z
  have := uZ.2 this;omega
def zdh {l : List Ite} {i : Int} (h0 : 0 <= i) (h : i < l.length) : l[i.toNat]? = some (itg l i) := by
 unfold itg;rw [jA, lgg (by omega)]; rfl
def zvj {k : Int} {l : List Ite} {h : Int} (Z : (itg l h).Value = k) (V : h + 1 < l.length) (Q : (itg l h).Cut <= 0) (U : (itg l (h + 1)).Color = false) (T : (itg l (h + 1)).Value = k) : blQ k l h = true := by
 unfold blQ; rw [jI Z, jI V, j9 (show ¬ 0 < (itg l h).Cut by omega), U, jI T]; rfl
def zvk {k : Int} {l : List Ite} {h : Int} (Z : (¬ (itg l h).Value = k \/ (l.length : Int) <= h + 1) \/ 0 < (itg l h).Cut) : blQ k l h = false := by
 unfold blQ;rcases Z with (Z | Z) | Z
 ·rw [j9 Z]; rfl
 ·rw [j9 (show ¬ h + 1 < (l.length : Int) by omega)]; simp
 ·rw [jI Z]; simp
def zvl {k : Int} {l : List Ite} {h : Int} (Z : (itg l (h + 1)).Color = true \/ ¬ (itg l (h + 1)).Value = k) : blQ k l h = false := by
 unfold blQ;rcases Z with Z | Z
 ·rw [Z]; simp
 ·rw [j9 Z]; simp
def zxl {s : Sgm} (h : s.From = s.To \/ s.Free = true) : (decide (s.From = s.To) || s.Free) = true := by
 rcases h with h | h
 ·rw [jI h]; rfl
 ·rw [h]; simp
def zxm {s : Sgm} (h : ¬ s.From = s.To /\ s.Free = false) : (decide (s.From = s.To) || s.Free) = false := by
 rw [j9 h.1, h.2]; rfl
def tbL (f w p a t : Bool) : List (List Bool) := [[true, f, f], [false, w && p, false], [false, !f && a, false], [false, false, !f && p && a], [false, false, !f && t]]
def tbV (f w p a t : Bool) (k : Nat) (r : Nat) : Bool := ((tbL f w p a t).getD k []).getD r false
abbrev tbA (f w p a t : Bool) : List AV := [.bool true, .bool f, .bool f, .bool false, .bool (w && p), .bool false, .bool false, .bool (!f && a), .bool false, .bool false, .bool false, .bool (!f && p && a), .bool false, .bool false, .bool (!f && t)]
def zvm (f w p a t : Bool) {k : Nat} (h : k < 5) : ((tbA f w p a t).drop ((k : Int).toNat * 3)).take 3 = [.bool (tbV f w p a t k 0), .bool (tbV f w p a t k 1), .bool (tbV f w p a t k 2)] := by
 have : k = 0 \/ k = 1 \/ k = 2 \/ k = 3 \/ k = 4 := by omega
 rcases this with rfl | rfl | rfl | rfl | rfl <;> rfl
def zxn (f w p a t : Bool) {k : Nat} (h : k < 5) {r : Int} (h0 : 0 <= r) (U : r < 3) : ([.bool (tbV f w p a t k 0), .bool (tbV f w p a t k 1), .bool (tbV f w p a t k 2)] : List AV)[0 * 0 + (0 + r.toNat * 1)]? = some (.bool (tbV f w p a t k r.toNat)) := by
 have Z : k = 0 \/ k = 1 \/ k = 2 \/ k = 3 \/ k = 4 := by omega
 have V : r = 0 \/ r = 1 \/ r = 2 := by omega
 rcases Z with rfl | rfl | rfl | rfl | rfl <;> rcases V with rfl | rfl | rfl <;> rfl
def alP (f w p a t : Bool) (r : Nat) : Nat -> List Int
 | 0 => []
 | k + 1 => alP f w p a t r k ++ if tbV f w p a t k r = true \/ (k = 0 /\ f = true) then [(k : Int)] else []
def zxo {f w p a t : Bool} {r n : Nat} (h : tbV f w p a t n r = true \/ ((n : Int) = 0 /\ f = true)) : alP f w p a t r n ++ [(n : Int)] = alP f w p a t r (n + 1) := by
 show _ = _ ++ _;rw [j4 (by rcases h with h | ⟨h, Z⟩; exact .inl h; exact .inr ⟨by omega, Z⟩)]
def zxp {f w p a t : Bool} {r n : Nat} (h : tbV f w p a t n r = false /\ (¬ (n : Int) = 0 \/ f = false)) : alP f w p a t r n = alP f w p a t r (n + 1) := by
 show _ = _ ++ _;rw [j3 (fun Z => by rcases Z with Z | ⟨Z, U⟩; (rw [h.1] at Z; cases Z); (rcases h.2 with V | V; (exact V (by omega)); (rw [V] at U; cases U))), wE]
def zne (f w p a t : Bool) (r : Nat) : ∀ k, (alP f w p a t r k).length <= k
 | 0 => jC _
 | k + 1 => by
  have := zne f w p a t r k;rw [show alP f w p a t r (k + 1) = alP f w p a t r k ++ (if tbV f w p a t k r = true \/ (k = 0 /\ f = true) then [(k : Int)] else []) from rfl, jJ];split <;> simp <;> omega
def zrQ (p a t : Bool) {s : Sgm} : alP s.Free (decide (s.Count.D = 1)) p a t (s.Count.N % 3).toNat 5 = alR p a t s := by
 have Z := uL s.Count.N (show (3 : Int) ≠ 0 by omega);have V := wZ s.Count.N (show (0 : Int) < 3 by omega);unfold alR;generalize s.Count.N % 3 = r at *
 have hr : r = 0 \/ r = 1 \/ r = 2 := by omega
 have U : ∀ w : Bool, w = decide (s.Count.D = 1) -> (s.Count.D = 1 ↔ w = true) := fun w e => by rw [e]; simp
 have := U _ rfl;generalize decide (s.Count.D = 1) = w at *
 simp only [this];generalize s.Free = f at *
 rcases hr with rfl | rfl | rfl <;> cases f <;> cases w <;> cases p <;> cases a <;> cases t <;> rfl
def zpJ : mpOk prog 333 3 4 := ⟨by kernel_rfl, _, Tryz.underlying3⟩
def znf : ∃ d, prog.underlying 3 = some (.int d) /\ d = .i64 := ⟨_, Tryz.underlying3, rfl⟩
def zpK {P : Program} {T : TypeId} (h : (P.info? T).bind (·.zero) = some (.bool false)) : ∃ z i, P.info? T = some i /\ i.zero = some z /\ ∀ I, RV I noNames (.bool false) z := by
 cases hi : P.info? T with
 | none => simp [hi] at h
 | some i => exact ⟨.bool false, i, rfl, by simpa [hi] using h, fun I => .bool _⟩
def zpL : ∃ z i, prog.info? 4 = some i /\ i.zero = some z /\ ∀ I, RV I noNames (AV.bool false) z := zpK ze4
attribute [local irreducible] fsL fsP fsA lasL laP cmpV addV addE subV subE drL
set_option maxHeartbeats 2000000 in
def zdr (l : List Ite) (k : Int) (u : Tm) (b : Nat) (L : List (Int × Bool)) (s : Sgm) (hs : SgB l.length s) (hl : l.length <= 1000000) : FnW prog 353 [.ept (fun _ : Unit => [.sl itE l, iv k, iv u.N, iv u.D, .val (.map (some b))]) () 0, smA s] (.bool (poQ u k l L s)) (zhr b (fun i : Int => .int .i64 i) AV.bool L) := by
 have f0 := hs.f0;have ft := hs.ft;have tn := hs.tn;have lf := hs.lf;have Z : (itR l s).length <= 1000000 := by unfold itR; simp; omega
 have Q := zhN (itR l s);refine FnW.go func353 ntmps353 (fun g w d J V => ?_);refine gd ?_ ?_<;>intro U
 ·have hE : poQ u k l L s = false := by unfold poQ; rw [jI U]; rfl
  refine gq ?_;all_goals rw [hE]
 have hx := zdh (l := l) (i := s.Left) (by omega) lf;have hE : poQ u k l L s = ((decide ((itg l s.Left).Value < k) || !(mget s.Left L).getD false) && lgQ u (itg l s.Left) && rcQ u (fsL (itR l s)) (itg l s.Left).After) := by unfold poQ; rw [j9 (show ¬ s.Left < 0 by omega)]; rfl
 refine gq ?_;refine yW [5,9,10,11,12,13,14,15,16,17] [0,1,3,7,15,0,32,127,255,0,1023] mo ?_;iterate 9 refine yb ?_
 refine ChM.step rfl rfl rfl (zu (k := 5) zgQ) rfl ?_;refine yA ?_;refine gq ?_;refine yW [4,18,19,20,21,22,23,24,25,26,27,28,29,30,31,32,33,34,35,36,37,38,39,40,41,42,43,44,45,46,47,48,49,50,51,52,53,54,55,56] [0,1,0,4,12,28,63,127,255,511,1023,2047,255,4351,16383,32767,65535,131071,262143,262143,1048575,2097151,4194303,8388607,8388607,25165823,58720255,125829119,260046847,8388607,545259519,8388607,2155872255,8581545983,17171480575,8388607,34368126975,137438953471,274877906943,549755813887] mo ?_;iterate 8 refine yb ?_
 iterate 6 refine k6 ?_
 refine k6 ?_ (hs := by intro T; exact zoU false J V zpJ znf zpL);refine k6 ?_;iterate 2 refine yb ?_
 iterate 2 refine k6 ?_
 refine kJ (zbc l k u b (itg l s.Left)) ?_;iterate 2 refine yb ?_
 iterate 10 refine k6 ?_
 refine k6 ?_ (hs := by intro T; exact zdf rfl rfl rfl zht zkc (fun _ => rfl) (by omega) (by omega) (by omega));refine kJ (zfk (itR l s) Z) ?_;iterate 2 refine k6 ?_
 refine kJ (za0 l k u b (fsL (itR l s)) (itg l s.Left).After (by omega)) ?_;iterate 2 refine yb ?_
 refine yA ?_;refine gq ?_;all_goals rw [hE]
set_option maxHeartbeats 2000000 in
def zds (l : List Ite) (k : Int) (u : Tm) (b : Nat) (s : Sgm) (hs : SgB l.length s) (hl : l.length <= 1000000) : Fn prog 354 [.ept (fun _ : Unit => [.sl itE l, iv k, iv u.N, iv u.D, .val (.map (some b))]) () 0, smA s] (.bool (anQ u k l s)) := by
 have f0 := hs.f0;have ft := hs.ft;have tn := hs.tn;have rt := hs.rt;have V : (itR l s).length <= 1000000 := by unfold itR; simp; omega
 have E := zpI (itR l s);refine xV func354 ntmps354 (fun g w d => ?_);refine gd ?_ ?_<;>intro Q
 ·have hE : anQ u k l s = false := by unfold anQ; rw [jI Q]; rfl
  refine gq ?_;all_goals rw [hE]
 have hx := zdh (l := l) (i := s.Right) (by omega) rt;refine gq ?_;refine yW [5,10,11,12,13,14,15,16,17,18] [0,1,3,7,15,0,32,127,255,0,1023] mo ?_;iterate 9 refine yb ?_
 refine ChM.step rfl rfl rfl (zu (k := 5) zgQ) rfl ?_;refine yA ?_;refine gq ?_;refine yW [19,20,21,22,23,24,25,26,27,28,29,30,31,32,33,34,35,36,37,38,39,40,41,42,43] [0,1,0,4,12,28,63,127,255,511,1023,255,2303,6399,14591,30975,63743,131071,262143,524287,1048575,2097151,4194303,8388607,16777215] mo ?_;iterate 8 refine yb ?_
 iterate 10 refine k6 ?_
 iterate 2 refine yb ?_
 iterate 4 refine k6 ?_
 refine yb ?_;refine yA ?_;refine gd ?_ ?_<;>intro U
 ·obtain ⟨⟨J, I⟩, H⟩ := U;have xT := zdh (l := l) (i := s.Right + 1) (by omega) (by omega);apply yg;refine yW [6,44,45,46,47,48,49,50,51,52,53] [0,1,3,7,15,0,32,96,255,511,0,2047] mo ?_;iterate 10 refine yb ?_
  refine ChM.step rfl rfl rfl (zu (k := 6) zgQ) rfl ?_;refine yA ?_;refine gq ?_;refine yW [54,55,56,57,58,59,60,61,62,63,64,65] [0,1,3,7,15,31,15,79,207,463,1023,2047] mo ?_;iterate 4 refine yb ?_
  iterate 7 refine k6 ?_
  refine yb ?_;refine yA ?_;refine gd ?_ ?_<;>intro Z
  ·have T : blQ k l s.Right = true := zvj J I H Z.1 Z.2;have hE : anQ u k l s = false := by unfold anQ; rw [T, j9 (show ¬ s.Right < 0 by omega)]; rfl
   refine gq ?_;all_goals rw [hE]
  have T : blQ k l s.Right = false := zvl Z;have hE : anQ u k l s = (lgQ u (itg l s.Right) && rcQ u (lasL (itR l s)) (itg l s.Right).Before) := by unfold anQ; rw [j9 (show ¬ s.Right < 0 by omega), T]; rfl
  refine gq ?_;refine yW [4,66,67,68,69,70,71,72,73,74,75,76,77,78,79,80,81,82,83,84,85] [0,0,3,7,15,15,47,111,239,495,15,1039,15,4111,16367,32751,15,65551,262143,524287,1048575] mo ?_;iterate 2 refine yb ?_
  refine yH (zbc l k u b (itg l s.Right)) ?_;refine yb ?_;iterate 10 refine k6 ?_
  refine k6 ?_ (hs := by intro G; exact zdf rfl rfl rfl zht zkc (fun _ => rfl) (by omega) (by omega) (by omega));refine kJ (zf9 (itR l s) V) ?_;iterate 2 refine k6 ?_
  refine kJ (za0 l k u b (lasL (itR l s)) (itg l s.Right).Before (by omega)) ?_;iterate 2 refine yb ?_
  refine yA ?_;refine gq ?_;all_goals rw [hE]
 ·have T : blQ k l s.Right = false := zvk U;have hE : anQ u k l s = (lgQ u (itg l s.Right) && rcQ u (lasL (itR l s)) (itg l s.Right).Before) := by unfold anQ; rw [j9 (show ¬ s.Right < 0 by omega), T]; rfl
  refine gq ?_;refine yW [4,66,67,68,69,70,71,72,73,74,75,76,77,78,79,80,81,82,83,84,85] [0,0,3,7,15,15,47,111,239,495,15,1039,15,4111,16367,32751,15,65551,262143,524287,1048575] mo ?_;iterate 2 refine yb ?_
  refine yH (zbc l k u b (itg l s.Right)) ?_;refine yb ?_;iterate 10 refine k6 ?_
  refine k6 ?_ (hs := by intro G; exact zdf rfl rfl rfl zht zkc (fun _ => rfl) (by omega) (by omega) (by omega));refine kJ (zf9 (itR l s) V) ?_;iterate 2 refine k6 ?_
  refine kJ (za0 l k u b (lasL (itR l s)) (itg l s.Right).Before (by omega)) ?_;iterate 2 refine yb ?_
  refine yA ?_;refine gq ?_;all_goals rw [hE]
set_option maxHeartbeats 2000000 in
def zga (l : List Ite) (k : Int) (u : Tm) (b : Nat) (s : Sgm) (hs : SgB l.length s) (hl : l.length <= 1000000) (k0 : -9223372036854775808 <= k) (k1 : k + 1 <= 9223372036854775807) : Fn prog 355 [.ept (fun _ : Unit => [.sl itE l, iv k, iv u.N, iv u.D, .val (.map (some b))]) () 0, smA s] (.bool (atQ u k l s)) := by
 have f0 := hs.f0;have ft := hs.ft;have tn := hs.tn;have rt := hs.rt;refine xV func355 ntmps355 (fun g w d => ?_);apply ye;refine zF ?_;refine yh ?_;apply yg;apply ye;iterate 5 refine ya ?_
 refine xX 5 ?_;refine ym ?_;iterate 2 refine xW ?_
 refine gf ?_ ?_<;>intro Z
 ·have hE : atQ u k l s = false := by unfold atQ; rw [zxl Z]; rfl
  refine gq ?_;all_goals (first | exact zE hE | (rw [hE]; unfold ntQ; rfl))
 have hx := zdh (l := l) (i := s.To - 1) (by omega) (by omega);have hE : atQ u k l s = (ntQ u k (itg l (s.To - 1)) && (decide (s.Right < 0) || decide ((itg l s.Right).Before.N = 0))) := by unfold atQ; rw [zxm Z]; rfl
 refine gq ?_;refine yW [5,16,17,18,19,20,21,22,23,24,25] [0,1,3,7,15,0,32,96,255,511,0,2047] mo ?_;iterate 10 refine yb ?_
 refine ChM.step rfl rfl rfl (zu (k := 5) zgQ) rfl ?_;refine yA ?_;refine gq ?_;refine yW [6,26,27,28,29,30,31,32,33,34,35,36,37,38,39,40,41,42,43,44,45,46,47,48,49,50,51,52,53,54,55,56,57] [0,1,3,7,15,31,63,127,255,511,1023,2047,4095,8191,16383,32767,16383,81919,212991,475135,999423,2097151,4194303,8388607,16777215,33554431,16777215,83886079,218103807,486539263,1073741823,2147483647,4294967295] mo ?_;iterate 4 refine yb ?_
 iterate 3 refine k6 ?_
 iterate 2 refine yb ?_
 iterate 3 refine k6 ?_
 iterate 2 refine yb ?_
 iterate 8 refine k6 ?_
 iterate 2 refine yb ?_
 iterate 7 refine k6 ?_
 iterate 2 refine yb ?_
 refine yA ?_;refine gq ?_;refine yW [4,58,59,60,61,62,63,64,65,66,67,68,69,70,71,72,73,74,75,76,77] [0,1,3,7,15,31,63,127,255,511,1023,63,2111,8191,16383,32767,65535,131071,262143,524287,1048575] mo ?_;iterate 2 refine yb ?_
 iterate 17 refine k6 ?_
 iterate 2 refine yb ?_
 refine yA ?_;refine gq ?_;all_goals (first | exact zE hE | (rw [hE]; unfold ntQ; rfl))
set_option maxHeartbeats 4000000 in
def za1 (l : List Ite) (k : Int) (u : Tm) (b : Nat) (L : List (Int × Bool)) (s : Sgm) (hs : SgB l.length s) (hl : l.length <= 1000000) (k0 : -9223372036854775808 <= k) (k1 : k + 1 <= 9223372036854775807) (hN : 0 <= s.Count.N) : FnOW prog 330 [.ept (fun _ : Unit => [.sl itE l, iv k, iv u.N, iv u.D, .val (.map (some b))]) () 0, smA s] intE (alQ u k l L s) 3 1 (zhr b (fun i : Int => .int .i64 i) AV.bool L) := by
 have Q := uL s.Count.N (show (3 : Int) ≠ 0 by omega);have J := wZ s.Count.N (show (0 : Int) < 3 by omega);refine FnOW.go func330 ntmps330 (rv := [.tmp 4]) (fun g w d hH H => ?_);have V : ∀ st g' a w', Rel (C0 86 d g w) st g' a w' -> zhr b (fun i : Int => .int .i64 i) AV.bool L g'.I g'.O w' := fun st g' a w' hr => hH.now rfl H hr
 refine gq ?_;refine yW [7,19,20,21,22,23,24,25,26,27,28,29,30,31,32,33,34,35,36,37,38,39,40,41,42,43,44,45,46,47,48,49,50,51,52,53,54,55,56,57,58,59,60,61,62,63] [0,1,0,4,15,0,32,96,96,480,992,2016,0,4096,12288,29664,62432,62432,259040,521184,1045472,0,2097152,6291456,15201248,31978464,31978464,132641760,266859488,535294944,1072165856,1072165856,4293391328,8588358624,17178293216,0,34359738368,103079215104,249106527200,523984434144,523984434144,2173251875808,4372275131360,8770321642464,17592186044415,0,70368744177663] mo ?_;iterate 7 refine yb ?_
 iterate 2 refine k6 ?_
 refine ChM.lg (x := .bool (poQ u k l L s)) V (zdr l k u b L s hs hl) ?_;iterate 6 refine yb ?_
 iterate 2 refine k6 ?_
 refine kJ (zds l k u b s hs hl) ?_;iterate 6 refine yb ?_
 iterate 2 refine k6 ?_
 refine ChM.lg (x := .bool (poQ u k l L s)) V (zdr l k u b L s hs hl) ?_;iterate 2 refine yb ?_
 iterate 2 refine k6 ?_
 refine kJ (zds l k u b s hs hl) ?_;iterate 6 refine yb ?_
 iterate 2 refine k6 ?_
 refine kJ (zga l k u b s hs hl k0 k1) ?_;iterate 3 refine yb ?_
 refine ChM.step rfl rfl rfl (zu (k := 7) zuK) rfl ?_;refine yA ?_;refine xY ?_;apply yE;refine yh ?_;iterate 2 apply yg
 refine xZ (yF intE 3 1 8 5 rfl rfl) ?_;apply yi;refine yL ?_;apply xS;refine zq (fun n => [(3, .ptr 3 0 0 0), (6, iv (s.Count.N % 3)), (8, .own 5), (64, .agg (tbA s.Free (decide (s.Count.D = 1)) (poQ u k l L s) (anQ u k l s) (atQ u k l s))), (65, iv (n : Int))]) (fun n => [(3, .box (smE s) 317), (5, .row intE (alP s.Free (decide (s.Count.D = 1)) (poQ u k l L s) (anQ u k l s) (atQ u k l s) (s.Count.N % 3).toNat n) 3 1)]) 5 (fun n hk => ?_) (h0 := yd);refine gd ?_ ?_<;>intro xT
 ·have U : n < 5 := by omega
  have G := zvm s.Free (decide (s.Count.D = 1)) (poQ u k l L s) (anQ u k l s) (atQ u k l s) U;have Z := zxn s.Free (decide (s.Count.D = 1)) (poQ u k l L s) (anQ u k l s) (atQ u k l s) U Q J;have x4 := zne s.Free (decide (s.Count.D = 1)) (poQ u k l L s) (anQ u k l s) (atQ u k l s) (s.Count.N % 3).toNat n;apply yl;apply yg;apply xS;apply ye;refine ya ?_;refine ya (hs := by exact zz ArK.h TyK.h rfl rfl (by omega) (by omega) G) ?_;refine zh ?_;refine ya ?_;refine xY ?_;apply yE;refine ya ?_;refine ya (hs := by exact zhp rfl rfl ArK.h ty4 (by omega) (by omega)) ?_;refine ya (hs := by exact zae rfl rfl Z ty4) ?_;refine xX 3 ?_;refine ym ?_;iterate 6 refine xW ?_
  refine gf ?_ ?_<;>intro T
  ·have E := zxo (r := (s.Count.N % 3).toNat) T;refine gq ?_;refine yz intE [_] ?_;refine gq ?_;refine yw (n + 1)
  ·have E := zxp (r := (s.Count.N % 3).toNat) T;refine gq ?_;refine yw (n + 1)
 ·have hn : n = 5 := by omega
  subst hn;have he : alP s.Free (decide (s.Count.D = 1)) (poQ u k l L s) (anQ u k l s) (atQ u k l s) (s.Count.N % 3).toNat 5 = alQ u k l L s := zrQ _ _ _;apply k8;apply ye;refine yL ?_;refine xU ?_;refine ⟨.inr rfl, [(4, .own 5)], [], yd, .one (.tmp rfl (xR rfl))⟩
end
end Go.Rse
