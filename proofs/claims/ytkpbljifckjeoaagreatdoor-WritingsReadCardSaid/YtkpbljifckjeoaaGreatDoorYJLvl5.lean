/-
  Walks.
-/
import Derived.Test.YtkpbljifckjeoaaGreatDoorYJLvl3
set_option linter.unusedSimpArgs false
set_option linter.unusedVariables false
namespace Go.Rse
open Go Go.Proofs
section
attribute [local irreducible] Pur yr yw Ex X Fn Imp LeV LeB FnO It yx FnW FnOW
theorem zjV (d : Tm) : ∀ (L : List Tm) (t : Tm), smF t (L ++ [d]) = smF t L ++ [addV (sumA t L) d]
 | [], t => rfl
 | x :: r, t => by
  show addV t x :: smF (addV t x) (r ++ [d]) = _;rw [zjV d r]; rfl
theorem zib (d : Tm) : ∀ (L : List Tm) (t : Tm), sumA t (L ++ [d]) = addV (sumA t L) d
 | [], t => rfl
 | x :: r, t => by
  show sumA (addV t x) (r ++ [d]) = _;rw [zib d r]; rfl
theorem zi0 : ∀ (L : List Tm) (t : Tm), (smF t L).length = L.length
 | [], t => rfl
 | x :: r, t => by simp only [smF, List.length_cons, zi0 r]
def fsP (l : List Ite) (n : Nat) : List Tm := smF ⟨0, 1⟩ ((drL l).take n)
def fsA (l : List Ite) (n : Nat) : Tm := sumA ⟨0, 1⟩ ((drL l).take n)
theorem zuj (l : List Ite) : [] = fsP l 0 := by unfold fsP; rw [List.take_zero]; rfl
theorem zuk (l : List Ite) : [iv 0, iv 1] = tmE (fsA l 0) := by unfold fsA; rw [List.take_zero]; rfl
theorem zxJ {l : List Ite} {n : Nat} {x : Ite} (h : l[n]? = some x) : tmE (addV (fsA l n) x.Dur) = tmE (fsA l (n + 1)) /\ fsP l n ++ [addV (fsA l n) x.Dur] = fsP l (n + 1) /\ (fsP l n).length <= n := by
 have hd : (drL l)[n]? = some x.Dur := by unfold drL; rw [List.getElem?_map, h]; rfl
 have ht : (drL l).take (n + 1) = (drL l).take n ++ [x.Dur] := by rw [List.take_add_one, hd]; rfl
 have e1 : fsA l (n + 1) = addV (fsA l n) x.Dur := by unfold fsA; rw [ht, zib]
 refine ⟨by rw [e1], ?_, ?_⟩
 ·unfold fsP fsA; rw [ht, zjV]
 ·unfold fsP; rw [zi0, List.length_take]; omega
theorem zpx (l : List Ite) : fsP l l.length = fsL l := by
 unfold fsP fsL; rw [List.take_of_length_le (by unfold drL; simp)]
theorem zi1 (l : List Ite) : (fsL l).length = l.length := by unfold fsL; rw [zi0]; unfold drL; simp
def laP (a : Tm) (L : List Tm) (n : Nat) : List Tm := a :: (((L.take n).filter fun t => decide (subE a t = 0)).map fun t => subV a t)
theorem zul (a : Tm) (L : List Tm) : [a] = laP a L 0 := by unfold laP; rw [List.take_zero]; rfl
theorem zum {a : Tm} {L : List Tm} {n : Nat} {t : Tm} (h : L[n]? = some t) : (subE a t = 0 -> laP a L n ++ [subV a t] = laP a L (n + 1)) /\ (¬ subE a t = 0 -> laP a L n = laP a L (n + 1)) /\ (laP a L n).length <= n + 1 := by
 unfold laP;have ht : L.take (n + 1) = L.take n ++ [t] := by rw [List.take_add_one, h]; rfl
 refine ⟨fun h0 => ?_, fun h0 => ?_, ?_⟩
 ·rw [ht, List.filter_append]; simp [h0]
 ·rw [ht, List.filter_append]; simp [h0]
 ·simp only [List.length_cons, List.length_map];have := List.length_filter_le (fun t => decide (subE a t = 0)) (L.take n);rw [List.length_take] at this; omega
theorem zpy {l : List Ite} (h : (fsL l).length = 0) : [] = lasL l := by
 have : fsL l = [] := List.eq_nil_of_length_eq_zero h;unfold lasL; rw [this]; rfl
theorem zpz {l : List Ite} {a : Tm} (h : (fsL l)[(fsL l).length - 1]? = some a) : laP a ((fsL l).take (((fsL l).length : Int) - 1).toNat) ((fsL l).take (((fsL l).length : Int) - 1).toNat).length = lasL l := by
 rw [show (((fsL l).length : Int) - 1).toNat = (fsL l).length - 1 by omega];have h1 : (fsL l).getLast? = some a := by rw [List.getLast?_eq_getElem?]; exact h
 unfold lasL; rw [h1];unfold laP;rw [List.take_length, List.dropLast_eq_take]
structure SgB (n : Nat) (s : Sgm) : Prop where
 f0 : 0 <= s.From
 ft : s.From <= s.To
 tn : s.To <= n
 lf : s.Left < n
 rt : s.Right < n
theorem SgOk.b {k : Int} {l : List Ite} {s : Sgm} (h : SgOk k l s) : SgB l.length s := ⟨h.f0, h.ft, h.tl, by have := h.ft; have := h.tl; rcases h.lf with h | h <;> omega, by rcases h.rt with h | h <;> omega⟩
attribute [local irreducible] fsL fsP fsA lasL laP cmpV addV addE subV subE drL
theorem zeo (l : List Ite) (hl : l.length <= 1000000) : Fn Tryz.prog 242 [itsA l] (tmsA (fsL l)) := by
 have h00 := zuj l;have h01 := zuk l;refine Fn.go Tryz.func242 Tryz.ntmps242 (fun g w d => ?_);apply yg;refine ya ?_;apply yI;refine yu ?_;apply yl;refine X.imp (yL tmE 25 2 3 200 rfl rfl) ?_;refine gq ?_
 refine yS (ι := Nat) (fun (n : Nat) => [(3, .own 200), (4, .ptr 4 0 0 0), (8, itsA l), (9, iv l.length), (10, iv (n : Int))]) (fun (n : Nat) => [(4, .box (tmE (fsA l n)) 25), (200, .row tmE (fsP l n) 25 2)]) (fun (n : Nat) => n <= l.length) (fun (n : Nat) => l.length - n) 0 (fun n hk => ?_) (h0 := by
  exact Imp.of (by (repeat' (first | exact True.intro | (refine And.intro ⟨_, rfl, ?_⟩ ?_; (first | exact LeV.refl _ | exact LeV.any _ | exact LeB.refl _ | (refine LeV.eq ?_; simp; done) | (refine LeV.eq ?_; congr 1; omega) | (refine LeV.eq ?_; dsimp only; congr 1; omega) | (refine LeV.eq (congrArg (AV.int _) ?_); omega) | exact LeV.nils _ | exact LeB.row (by assumption) | (refine LeB.eq ?_; congr 1; omega) | (refine LeB.eq ?_; congr 1; simp only [cond_true, cond_false]; omega)))))) (by (repeat' (first | exact True.intro | (refine And.intro ⟨_, rfl, ?_⟩ ?_; (first | exact LeB.refl _ | exact LeB.row (by assumption) | exact LeB.eq (congrArg (fun z => Blk.box z 25) h01) | exact LeB.eq (congrArg (fun z => Blk.box z 25) hs1)))))))
 refine gd ?_ ?_<;>intro hc1
 ·obtain ⟨x, hx⟩ : ∃ x, l[n]? = some x := ⟨_, lgg (by omega)⟩;have hx2 : l[(n : Int).toNat]? = some x := by simpa using hx
  have hs3 := zxJ hx;obtain ⟨hs1, hs2, hs4⟩ := hs3;refine gq ?_;refine yb (zbj (fsA l n) x.Dur) ?_;refine gq ?_;refine yJ tmE [addV (fsA l n) x.Dur] ?_;refine gq ?_;refine yz (n + 1) (hI := Imp.of (by (repeat' (first | exact True.intro | (refine And.intro ⟨_, rfl, ?_⟩ ?_; (first | exact LeV.refl _ | exact LeV.any _ | exact LeB.refl _ | (refine LeV.eq ?_; simp; done) | (refine LeV.eq ?_; congr 1; omega) | (refine LeV.eq ?_; dsimp only; congr 1; omega) | (refine LeV.eq (congrArg (AV.int _) ?_); omega) | exact LeV.nils _ | exact LeB.row (by assumption) | (refine LeB.eq ?_; congr 1; omega) | (refine LeB.eq ?_; congr 1; simp only [cond_true, cond_false]; omega)))))) (by (repeat' (first | exact True.intro | (refine And.intro ⟨_, rfl, ?_⟩ ?_; (first | exact LeB.refl _ | exact LeB.row (by assumption) | exact LeB.eq (congrArg (fun z => Blk.box z 25) h01) | exact LeB.eq (congrArg (fun z => Blk.box z 25) hs1)))))))
 ·have hn : n = l.length := by omega
  subst hn;have he := zpx l;apply X.exit;apply yl;refine X.imp (Imp.freeze (k := 200) rfl) ?_;refine gq ?_;all_goals (first | exact congrArg (fun z => tmsA z) he | (rw [he]; done))
theorem zeZ (l : List Ite) (hl : l.length <= 1000000) : Fn Tryz.prog 243 [itsA l] (tmsA (lasL l)) := by
 have hfl := zi1 l;refine Fn.go Tryz.func243 Tryz.ntmps243 (fun g w d => ?_);refine gq ?_;refine yb (zeo l hl) ?_;refine gd ?_ ?_<;>intro hc1
 ·have he := zpy (l := l) (by omega);apply yg;refine yu ?_;refine X.ret ?_;refine RetQ.imp (ye (ts := [(2, tmsA [])]) (hs := [])) ?_;refine gq ?_;all_goals (first | exact congrArg (fun z => tmsA z) he | (rw [← he]; done))
 obtain ⟨a, ha⟩ : ∃ a, (fsL l)[(fsL l).length - 1]? = some a := ⟨_, lgg (by omega)⟩;have ha2 : (fsL l)[((fsL l).length - 1 : Int).toNat]? = some a := by rw [show ((fsL l).length - 1 : Int).toNat = (fsL l).length - 1 by omega]; exact ha
 have h00 := zul a ((fsL l).take (((fsL l).length : Int) - 1).toNat);have htk : ((fsL l).take (((fsL l).length : Int) - 1).toNat).length <= l.length := by rw [List.length_take]; omega
 refine gq ?_;refine yJ tmE [a] ?_;refine gq ?_
 first
  | refine zao (zc8 rfl rfl rfl sl54 ty25 (by omega) (by omega)) rfl ?_
  | refine zao (zdP rfl rfl sl54 ty25 (fun _ => rfl) (by omega) (by omega)) rfl ?_
 refine gq ?_
 refine yS (ι := Nat) (fun (n : Nat) => [(4, .ptr 4 0 0 0), (5, .own 22), (27, tmsA ((fsL l).take (((fsL l).length : Int) - 1).toNat)), (28, iv ((fsL l).take (((fsL l).length : Int) - 1).toNat).length), (29, iv (n : Int))]) (fun (n : Nat) => [(4, .box (tmE a) 25), (22, .row tmE (laP a ((fsL l).take (((fsL l).length : Int) - 1).toNat) n) 25 2)]) (fun (n : Nat) => n <= ((fsL l).take (((fsL l).length : Int) - 1).toNat).length) (fun (n : Nat) => ((fsL l).take (((fsL l).length : Int) - 1).toNat).length - n) 0 (fun n hk => ?_) (h0 := by
  exact yd)
 refine gd ?_ ?_<;>intro hc2
 ·obtain ⟨t, ht⟩ : ∃ t, ((fsL l).take (((fsL l).length : Int) - 1).toNat)[n]? = some t := ⟨_, lgg (by omega)⟩;have ht2 : ((fsL l).take (((fsL l).length : Int) - 1).toNat)[(n : Int).toNat]? = some t := by simpa using ht
  have hs3 := zum (a := a) ht;obtain ⟨hs1, hs2, hs4⟩ := hs3;refine gq ?_;refine yb (zbR a t) ?_;refine gd ?_ ?_<;>intro hc3
  ·have hs1 := hs1 hc3;refine gq ?_;refine yJ tmE [subV a t] ?_;refine gq ?_;refine yz (n + 1) (hI := yd)
  ·have hs2 := hs2 hc3;refine gq ?_;refine yz (n + 1) (hI := yd)
 ·have hn : n = ((fsL l).take (((fsL l).length : Int) - 1).toNat).length := by omega
  subst hn;have he := zpz ha;apply X.exit;apply yl;refine X.imp (Imp.freeze (k := 22) rfl) ?_;refine gq ?_;all_goals (first | exact congrArg (fun z => tmsA z) he | (rw [he]; done))
theorem zaH (l : List Ite) (k : Int) (u : Tm) (b : Nat) (x : Ite) : Fn Tryz.prog 240 [.ept (fun _ : Unit => [.sl itE l, iv k, iv u.N, iv u.D, .val (.map (some b))]) () 0, itA x] (.bool (lgQ u x)) := by
 refine Fn.go Tryz.func240 Tryz.ntmps240 (fun g w d => ?_);refine gq ?_;refine zf [5,6,7,8,9,10,11,12,13,14,15,16] [0,1,0,4,12,28,63,127,255,255,511,2047] mo ?_;iterate 6 refine yc ?_
 refine yM (zg4 x.Dur u) ?_;iterate 5 refine yc ?_
 refine yE ?_;refine gq ?_;all_goals (rfl)
theorem zaB (l : List Ite) (k : Int) (u : Tm) (b : Nat) (S : List Tm) (t : Tm) (hS : S.length <= 2000000) : Fn Tryz.prog 241 [.ept (fun _ : Unit => [.sl itE l, iv k, iv u.N, iv u.D, .val (.map (some b))]) () 0, tmsA S, tmA t] (.bool (rcQ u S t)) := by
 refine Fn.go Tryz.func241 Tryz.ntmps241 (fun g w d => ?_);refine gq ?_;refine zf [7,9,10,11,12,13,14,15,16,17] [0,0,2,6,14,31,63,127,127,0,767,2047] mo ?_;iterate 5 refine yc ?_
 refine yM (zbj t u) ?_;iterate 3 refine yc ?_
 refine ChM.step rfl rfl rfl (zbn (k := 7) zc25) rfl ?_;refine ChM.lt 8 ?_ ?_
 ·refine Ex.mo ?_;refine ya ?_;apply yI;iterate 2 refine ya ?_
  refine ExF.at 2 ?_;refine gq ?_;refine ExF.cg (zl S (addV t u) (by omega)) ?_;refine ge ?_;all_goals (rfl)
 ·refine Ex.mo ?_;iterate 2 refine ya ?_
  apply yI;iterate 2 refine ya ?_
  refine ExF.at 2 ?_;refine gq ?_;refine ExF.cg (zl S (addV t u) (by omega)) ?_;refine ge ?_;all_goals (rfl)
end
section
attribute [local irreducible] Pur yr yw Ex X Fn Imp LeV LeB FnO It yx FnW FnOW
theorem znC (l : List Ite) : (lasL l).length <= l.length := by
 have h := zi1 l;unfold lasL;cases hg : (fsL l).getLast? with
 | none => simp
 | some a =>
  simp only [List.length_cons, List.length_map];have := List.length_filter_le (fun t => decide (subE a t = 0)) (fsL l).dropLast;rw [List.length_dropLast] at this;have : (fsL l) ≠ [] := fun e => by rw [e] at hg; simp at hg
  have := List.length_pos_iff.2 this;omega
theorem zez {l : List Ite} {i : Int} (h0 : 0 <= i) (h : i < l.length) : l[i.toNat]? = some (itg l i) := by
 unfold itg;rw [List.getD_eq_getElem?_getD, lgg (by omega)]; rfl
theorem zsi {k : Int} {l : List Ite} {h : Int} (h1 : (itg l h).Value = k) (h2 : h + 1 < l.length) (h3 : (itg l h).Cut <= 0) (h4 : (itg l (h + 1)).Color = false) (h5 : (itg l (h + 1)).Value = k) : blQ k l h = true := by
 unfold blQ; rw [decide_eq_true h1, decide_eq_true h2, decide_eq_false (show ¬ 0 < (itg l h).Cut by omega), h4, decide_eq_true h5]; rfl
theorem zsj {k : Int} {l : List Ite} {h : Int} (hh : (¬ (itg l h).Value = k \/ (l.length : Int) <= h + 1) \/ 0 < (itg l h).Cut) : blQ k l h = false := by
 unfold blQ;rcases hh with (hh | hh) | hh
 ·rw [decide_eq_false hh]; rfl
 ·rw [decide_eq_false (show ¬ h + 1 < (l.length : Int) by omega)]; simp
 ·rw [decide_eq_true hh]; simp
theorem zsk {k : Int} {l : List Ite} {h : Int} (hh : (itg l (h + 1)).Color = true \/ ¬ (itg l (h + 1)).Value = k) : blQ k l h = false := by
 unfold blQ;rcases hh with hh | hh
 ·rw [hh]; simp
 ·rw [decide_eq_false hh]; simp
theorem zun {s : Sgm} (h : s.From = s.To \/ s.Free = true) : (decide (s.From = s.To) || s.Free) = true := by
 rcases h with h | h
 ·rw [decide_eq_true h]; rfl
 ·rw [h]; simp
theorem zuo {s : Sgm} (h : ¬ s.From = s.To /\ s.Free = false) : (decide (s.From = s.To) || s.Free) = false := by
 rw [decide_eq_false h.1, h.2]; rfl
def tbL (f w p a t : Bool) : List (List Bool) := [[true, f, f], [false, w && p, false], [false, !f && a, false], [false, false, !f && p && a], [false, false, !f && t]]
def tbV (f w p a t : Bool) (k : Nat) (r : Nat) : Bool := ((tbL f w p a t).getD k []).getD r false
abbrev tbA (f w p a t : Bool) : List AV := [.bool true, .bool f, .bool f, .bool false, .bool (w && p), .bool false, .bool false, .bool (!f && a), .bool false, .bool false, .bool false, .bool (!f && p && a), .bool false, .bool false, .bool (!f && t)]
theorem zsl (f w p a t : Bool) {k : Nat} (h : k < 5) : ((tbA f w p a t).drop ((k : Int).toNat * 3)).take 3 = [.bool (tbV f w p a t k 0), .bool (tbV f w p a t k 1), .bool (tbV f w p a t k 2)] := by
 have : k = 0 \/ k = 1 \/ k = 2 \/ k = 3 \/ k = 4 := by omega
 rcases this with rfl | rfl | rfl | rfl | rfl <;> rfl
theorem zup (f w p a t : Bool) {k : Nat} (h : k < 5) {r : Int} (h0 : 0 <= r) (h3 : r < 3) : ([.bool (tbV f w p a t k 0), .bool (tbV f w p a t k 1), .bool (tbV f w p a t k 2)] : List AV)[0 * 0 + (0 + r.toNat * 1)]? = some (.bool (tbV f w p a t k r.toNat)) := by
 have h1 : k = 0 \/ k = 1 \/ k = 2 \/ k = 3 \/ k = 4 := by omega
 have h2 : r = 0 \/ r = 1 \/ r = 2 := by omega
 rcases h1 with rfl | rfl | rfl | rfl | rfl <;> rcases h2 with rfl | rfl | rfl <;> rfl
def alP (f w p a t : Bool) (r : Nat) : Nat -> List Int
 | 0 => []
 | k + 1 => alP f w p a t r k ++ if tbV f w p a t k r = true \/ (k = 0 /\ f = true) then [(k : Int)] else []
theorem zuq {f w p a t : Bool} {r n : Nat} (h : tbV f w p a t n r = true \/ ((n : Int) = 0 /\ f = true)) : alP f w p a t r n ++ [(n : Int)] = alP f w p a t r (n + 1) := by
 show _ = _ ++ _;rw [if_pos (by rcases h with h | ⟨h, h2⟩; exact .inl h; exact .inr ⟨by omega, h2⟩)]
theorem zur {f w p a t : Bool} {r n : Nat} (h : tbV f w p a t n r = false /\ (¬ (n : Int) = 0 \/ f = false)) : alP f w p a t r n = alP f w p a t r (n + 1) := by
 show _ = _ ++ _;rw [if_neg (fun hh => by rcases hh with hh | ⟨hh, h2⟩; (rw [h.1] at hh; cases hh); (rcases h.2 with h3 | h3; (exact h3 (by omega)); (rw [h3] at h2; cases h2))), List.append_nil]
theorem zlE (f w p a t : Bool) (r : Nat) : ∀ k, (alP f w p a t r k).length <= k
 | 0 => Nat.le_refl _
 | k + 1 => by
  have := zlE f w p a t r k;rw [show alP f w p a t r (k + 1) = alP f w p a t r k ++ (if tbV f w p a t k r = true \/ (k = 0 /\ f = true) then [(k : Int)] else []) from rfl, List.length_append];split <;> simp <;> omega
theorem zpA (p a t : Bool) {s : Sgm} : alP s.Free (decide (s.Count.D = 1)) p a t (s.Count.N % 3).toNat 5 = alR p a t s := by
 have hm0 := Int.emod_nonneg s.Count.N (show (3 : Int) ≠ 0 by omega);have hm1 := Int.emod_lt_of_pos s.Count.N (show (0 : Int) < 3 by omega);unfold alR;generalize s.Count.N % 3 = r at *
 have hr : r = 0 \/ r = 1 \/ r = 2 := by omega
 have hw : ∀ w : Bool, w = decide (s.Count.D = 1) -> (s.Count.D = 1 ↔ w = true) := fun w e => by rw [e]; simp
 have := hw _ rfl;generalize decide (s.Count.D = 1) = w at *
 simp only [this];generalize s.Free = f at *
 rcases hr with rfl | rfl | rfl <;> cases f <;> cases w <;> cases p <;> cases a <;> cases t <;> rfl
theorem znD : mpOk Tryz.prog 241 3 4 := ⟨by kernel_rfl, _, Tryz.underlying3⟩
theorem zlF : ∃ d, Tryz.prog.underlying 3 = some (.int d) /\ d = .i64 := ⟨_, Tryz.underlying3, rfl⟩
theorem znE {P : Program} {T : TypeId} (h : (P.info? T).bind (·.zero) = some (.bool false)) : ∃ z i, P.info? T = some i /\ i.zero = some z /\ ∀ I, RV I noNames (.bool false) z := by
 cases hi : P.info? T with
 | none => simp [hi] at h
 | some i => exact ⟨.bool false, i, rfl, by simpa [hi] using h, fun I => .bool _⟩
theorem znF : ∃ z i, Tryz.prog.info? 4 = some i /\ i.zero = some z /\ ∀ I, RV I noNames (AV.bool false) z := znE ze4
attribute [local irreducible] fsL fsP fsA lasL laP cmpV addV addE subV subE drL
set_option maxHeartbeats 2000000 in
theorem zcz (l : List Ite) (k : Int) (u : Tm) (b : Nat) (L : List (Int × Bool)) (s : Sgm) (hs : SgB l.length s) (hl : l.length <= 1000000) : FnW Tryz.prog 229 [.ept (fun _ : Unit => [.sl itE l, iv k, iv u.N, iv u.D, .val (.map (some b))]) () 0, smA s] (.bool (poQ u k l L s)) (zhO b (fun i : Int => .int .i64 i) AV.bool L) := by
 have f0 := hs.f0;have ft := hs.ft;have tn := hs.tn;have lf := hs.lf;have hrl : (itR l s).length <= 1000000 := by unfold itR; simp; omega
 have hfl := zi1 (itR l s);refine FnW.go Tryz.func229 Tryz.ntmps229 (fun g w d hH hfr => ?_);refine gd ?_ ?_<;>intro hc1
 ·have hE : poQ u k l L s = false := by unfold poQ; rw [decide_eq_true hc1]; rfl
  refine gq ?_;all_goals (rw [hE])
 have hx := zez (l := l) (i := s.Left) (by omega) lf;have hE : poQ u k l L s = ((decide ((itg l s.Left).Value < k) || !(mget s.Left L).getD false) && lgQ u (itg l s.Left) && rcQ u (fsL (itR l s)) (itg l s.Left).After) := by unfold poQ; rw [decide_eq_false (show ¬ s.Left < 0 by omega)]; rfl
 refine gq ?_;refine zf [5,9,10,11,12,13,14,15,16,17] [0,1,3,7,15,0,32,127,255,0,1023] mo ?_;iterate 9 refine yc ?_
 refine ChM.step rfl rfl rfl (zbn (k := 5) ziG) rfl ?_;refine yE ?_;refine gq ?_;refine zf [4,18,19,20,21,22,23,24,25,26,27,28,29,30,31,32,33,34,35,36,37,38,39,40,41,42,43,44,45,46,47,48,49,50,51,52,53,54,55,56] [0,1,0,4,12,28,63,127,255,511,1023,2047,255,4351,16383,32767,65535,131071,262143,262143,1048575,2097151,4194303,8388607,8388607,25165823,58720255,125829119,260046847,8388607,545259519,8388607,2155872255,8581545983,17171480575,8388607,34368126975,137438953471,274877906943,549755813887] mo ?_;iterate 8 refine yc ?_
 iterate 6 refine ChM.gi ?_
 refine ChM.gi ?_ (hs := by intro hgd; exact zm6 false hH hfr znD zlF znF);refine ChM.gi ?_;iterate 2 refine yc ?_
 iterate 2 refine ChM.gi ?_
 refine ChM.cg (zaH l k u b (itg l s.Left)) ?_;iterate 2 refine yc ?_
 iterate 10 refine ChM.gi ?_
 refine ChM.gi ?_ (hs := by intro hgd; exact zcm rfl rfl rfl ziH zkx (fun _ => rfl) (by omega) (by omega) (by omega));refine ChM.cg (zeo (itR l s) hrl) ?_;iterate 2 refine ChM.gi ?_
 refine ChM.cg (zaB l k u b (fsL (itR l s)) (itg l s.Left).After (by omega)) ?_;iterate 2 refine yc ?_
 refine yE ?_;refine gq ?_;all_goals (rw [hE])
set_option maxHeartbeats 2000000 in
theorem zcA (l : List Ite) (k : Int) (u : Tm) (b : Nat) (s : Sgm) (hs : SgB l.length s) (hl : l.length <= 1000000) : Fn Tryz.prog 230 [.ept (fun _ : Unit => [.sl itE l, iv k, iv u.N, iv u.D, .val (.map (some b))]) () 0, smA s] (.bool (anQ u k l s)) := by
 have f0 := hs.f0;have ft := hs.ft;have tn := hs.tn;have rt := hs.rt;have hrl : (itR l s).length <= 1000000 := by unfold itR; simp; omega
 have hfl := znC (itR l s);refine Fn.go Tryz.func230 Tryz.ntmps230 (fun g w d => ?_);refine gd ?_ ?_<;>intro hc1
 ·have hE : anQ u k l s = false := by unfold anQ; rw [decide_eq_true hc1]; rfl
  refine gq ?_;all_goals (rw [hE])
 have hx := zez (l := l) (i := s.Right) (by omega) rt;refine gq ?_;refine zf [5,10,11,12,13,14,15,16,17,18] [0,1,3,7,15,0,32,127,255,0,1023] mo ?_;iterate 9 refine yc ?_
 refine ChM.step rfl rfl rfl (zbn (k := 5) ziG) rfl ?_;refine yE ?_;refine gq ?_;refine zf [19,20,21,22,23,24,25,26,27,28,29,30,31,32,33,34,35,36,37,38,39,40,41,42,43] [0,1,0,4,12,28,63,127,255,511,1023,255,2303,6399,14591,30975,63743,131071,262143,524287,1048575,2097151,4194303,8388607,16777215] mo ?_;iterate 8 refine yc ?_
 iterate 10 refine ChM.gi ?_
 iterate 2 refine yc ?_
 iterate 4 refine ChM.gi ?_
 refine yc ?_;refine yE ?_;refine gd ?_ ?_<;>intro hc2
 ·obtain ⟨⟨hv1, hv2⟩, hv3⟩ := hc2;have hx2 := zez (l := l) (i := s.Right + 1) (by omega) (by omega);apply yl;refine zf [6,44,45,46,47,48,49,50,51,52,53] [0,1,3,7,15,0,32,96,255,511,0,2047] mo ?_;iterate 10 refine yc ?_
  refine ChM.step rfl rfl rfl (zbn (k := 6) ziG) rfl ?_;refine yE ?_;refine gq ?_;refine zf [54,55,56,57,58,59,60,61,62,63,64,65] [0,1,3,7,15,31,15,79,207,463,1023,2047] mo ?_;iterate 4 refine yc ?_
  iterate 7 refine ChM.gi ?_
  refine yc ?_;refine yE ?_;refine gd ?_ ?_<;>intro hc3
  ·have hB : blQ k l s.Right = true := zsi hv1 hv2 hv3 hc3.1 hc3.2;have hE : anQ u k l s = false := by unfold anQ; rw [hB, decide_eq_false (show ¬ s.Right < 0 by omega)]; rfl
   refine gq ?_;all_goals (rw [hE])
  have hB : blQ k l s.Right = false := zsk hc3;have hE : anQ u k l s = (lgQ u (itg l s.Right) && rcQ u (lasL (itR l s)) (itg l s.Right).Before) := by unfold anQ; rw [decide_eq_false (show ¬ s.Right < 0 by omega), hB]; rfl
  refine gq ?_;refine zf [4,66,67,68,69,70,71,72,73,74,75,76,77,78,79,80,81,82,83,84,85] [0,0,3,7,15,15,47,111,239,495,15,1039,15,4111,16367,32751,15,65551,262143,524287,1048575] mo ?_;iterate 2 refine yc ?_
  refine yM (zaH l k u b (itg l s.Right)) ?_;refine yc ?_;iterate 10 refine ChM.gi ?_
  refine ChM.gi ?_ (hs := by intro hgd; exact zcm rfl rfl rfl ziH zkx (fun _ => rfl) (by omega) (by omega) (by omega));refine ChM.cg (zeZ (itR l s) hrl) ?_;iterate 2 refine ChM.gi ?_
  refine ChM.cg (zaB l k u b (lasL (itR l s)) (itg l s.Right).Before (by omega)) ?_;iterate 2 refine yc ?_
  refine yE ?_;refine gq ?_;all_goals (rw [hE])
 ·have hB : blQ k l s.Right = false := zsj hc2;have hE : anQ u k l s = (lgQ u (itg l s.Right) && rcQ u (lasL (itR l s)) (itg l s.Right).Before) := by unfold anQ; rw [decide_eq_false (show ¬ s.Right < 0 by omega), hB]; rfl
  refine gq ?_;refine zf [4,66,67,68,69,70,71,72,73,74,75,76,77,78,79,80,81,82,83,84,85] [0,0,3,7,15,15,47,111,239,495,15,1039,15,4111,16367,32751,15,65551,262143,524287,1048575] mo ?_;iterate 2 refine yc ?_
  refine yM (zaH l k u b (itg l s.Right)) ?_;refine yc ?_;iterate 10 refine ChM.gi ?_
  refine ChM.gi ?_ (hs := by intro hgd; exact zcm rfl rfl rfl ziH zkx (fun _ => rfl) (by omega) (by omega) (by omega));refine ChM.cg (zeZ (itR l s) hrl) ?_;iterate 2 refine ChM.gi ?_
  refine ChM.cg (zaB l k u b (lasL (itR l s)) (itg l s.Right).Before (by omega)) ?_;iterate 2 refine yc ?_
  refine yE ?_;refine gq ?_;all_goals (rw [hE])
set_option maxHeartbeats 2000000 in
theorem ze0 (l : List Ite) (k : Int) (u : Tm) (b : Nat) (s : Sgm) (hs : SgB l.length s) (hl : l.length <= 1000000) (k0 : -9223372036854775808 <= k) (k1 : k + 1 <= 9223372036854775807) : Fn Tryz.prog 231 [.ept (fun _ : Unit => [.sl itE l, iv k, iv u.N, iv u.D, .val (.map (some b))]) () 0, smA s] (.bool (atQ u k l s)) := by
 have f0 := hs.f0;have ft := hs.ft;have tn := hs.tn;have rt := hs.rt;refine Fn.go Tryz.func231 Tryz.ntmps231 (fun g w d => ?_);apply yg;refine zaS ?_;refine yu ?_;apply yl;apply yg;iterate 5 refine ya ?_
 refine ExF.at 5 ?_;refine yA ?_;iterate 2 refine ExF.gi ?_
 refine gf ?_ ?_<;>intro hc1
 ·have hE : atQ u k l s = false := by unfold atQ; rw [zun hc1]; rfl
  refine gq ?_;all_goals (first | (rw [hE]; done) | (rw [hE]; unfold ntQ; rfl))
 have hx := zez (l := l) (i := s.To - 1) (by omega) (by omega);have hE : atQ u k l s = (ntQ u k (itg l (s.To - 1)) && (decide (s.Right < 0) || decide ((itg l s.Right).Before.N = 0))) := by unfold atQ; rw [zuo hc1]; rfl
 refine gq ?_;refine zf [5,16,17,18,19,20,21,22,23,24,25] [0,1,3,7,15,0,32,96,255,511,0,2047] mo ?_;iterate 10 refine yc ?_
 refine ChM.step rfl rfl rfl (zbn (k := 5) ziG) rfl ?_;refine yE ?_;refine gq ?_;refine zf [6,26,27,28,29,30,31,32,33,34,35,36,37,38,39,40,41,42,43,44,45,46,47,48,49,50,51,52,53,54,55,56,57] [0,1,3,7,15,31,63,127,255,511,1023,2047,4095,8191,16383,32767,16383,81919,212991,475135,999423,2097151,4194303,8388607,16777215,33554431,16777215,83886079,218103807,486539263,1073741823,2147483647,4294967295] mo ?_;iterate 4 refine yc ?_
 iterate 3 refine ChM.gi ?_
 iterate 2 refine yc ?_
 iterate 3 refine ChM.gi ?_
 iterate 2 refine yc ?_
 iterate 8 refine ChM.gi ?_
 iterate 2 refine yc ?_
 iterate 7 refine ChM.gi ?_
 iterate 2 refine yc ?_
 refine yE ?_;refine gq ?_;refine zf [4,58,59,60,61,62,63,64,65,66,67,68,69,70,71,72,73,74,75,76,77] [0,1,3,7,15,31,63,127,255,511,1023,63,2111,8191,16383,32767,65535,131071,262143,524287,1048575] mo ?_;iterate 2 refine yc ?_
 iterate 17 refine ChM.gi ?_
 iterate 2 refine yc ?_
 refine yE ?_;refine gq ?_;all_goals (first | (rw [hE]; done) | (rw [hE]; unfold ntQ; rfl))
set_option maxHeartbeats 4000000 in
theorem zaC (l : List Ite) (k : Int) (u : Tm) (b : Nat) (L : List (Int × Bool)) (s : Sgm) (hs : SgB l.length s) (hl : l.length <= 1000000) (k0 : -9223372036854775808 <= k) (k1 : k + 1 <= 9223372036854775807) (hN : 0 <= s.Count.N) : FnOW Tryz.prog 209 [.ept (fun _ : Unit => [.sl itE l, iv k, iv u.N, iv u.D, .val (.map (some b))]) () 0, smA s] intE (alQ u k l L s) 3 1 (zhO b (fun i : Int => .int .i64 i) AV.bool L) := by
 have hr0 := Int.emod_nonneg s.Count.N (show (3 : Int) ≠ 0 by omega);have hr1 := Int.emod_lt_of_pos s.Count.N (show (0 : Int) < 3 by omega);refine FnOW.go Tryz.func209 Tryz.ntmps209 (rv := [.tmp 4]) (fun g w d hH hfr => ?_);have hH2 : ∀ st g' a w', Rel (C0 86 d g w) st g' a w' -> zhO b (fun i : Int => .int .i64 i) AV.bool L g'.I g'.O w' := fun st g' a w' hr => hH.now rfl hfr hr
 refine gq ?_;refine zf [7,19,20,21,22,23,24,25,26,27,28,29,30,31,32,33,34,35,36,37,38,39,40,41,42,43,44,45,46,47,48,49,50,51,52,53,54,55,56,57,58,59,60,61,62,63] [0,1,0,4,15,0,32,96,96,480,992,2016,0,4096,12288,29664,62432,62432,259040,521184,1045472,0,2097152,6291456,15201248,31978464,31978464,132641760,266859488,535294944,1072165856,1072165856,4293391328,8588358624,17178293216,0,34359738368,103079215104,249106527200,523984434144,523984434144,2173251875808,4372275131360,8770321642464,17592186044415,0,70368744177663] mo ?_;iterate 7 refine yc ?_
 iterate 2 refine ChM.gi ?_
 refine ChM.lg (x := .bool (poQ u k l L s)) hH2 (zcz l k u b L s hs hl) ?_;iterate 6 refine yc ?_
 iterate 2 refine ChM.gi ?_
 refine ChM.cg (zcA l k u b s hs hl) ?_;iterate 6 refine yc ?_
 iterate 2 refine ChM.gi ?_
 refine ChM.lg (x := .bool (poQ u k l L s)) hH2 (zcz l k u b L s hs hl) ?_;iterate 2 refine yc ?_
 iterate 2 refine ChM.gi ?_
 refine ChM.cg (zcA l k u b s hs hl) ?_;iterate 6 refine yc ?_
 iterate 2 refine ChM.gi ?_
 refine ChM.cg (ze0 l k u b s hs hl k0 k1) ?_;iterate 3 refine yc ?_
 refine ChM.step rfl rfl rfl (zbn (k := 7) zrT) rfl ?_;refine yE ?_;refine Ex.mo ?_;apply yI;refine yu ?_;iterate 2 apply yl
 refine X.imp (yL intE 3 1 8 5 rfl rfl) ?_;refine gq ?_;refine yS (ι := Nat) (fun (n : Nat) => [(3, .ptr 3 0 0 0), (6, iv (s.Count.N % 3)), (8, .own 5), (64, .agg (tbA s.Free (decide (s.Count.D = 1)) (poQ u k l L s) (anQ u k l s) (atQ u k l s))), (65, iv (n : Int))]) (fun (n : Nat) => [(3, .box (smE s) 232), (5, .row intE (alP s.Free (decide (s.Count.D = 1)) (poQ u k l L s) (anQ u k l s) (atQ u k l s) (s.Count.N % 3).toNat n) 3 1)]) (fun (n : Nat) => n <= 5) (fun (n : Nat) => 5 - n) 0 (fun n hk => ?_);refine gd ?_ ?_<;>intro hc1
 ·have hn5 : n < 5 := by omega
  have hpt := zsl s.Free (decide (s.Count.D = 1)) (poQ u k l L s) (anQ u k l s) (atQ u k l s) hn5;have hcell := zup s.Free (decide (s.Count.D = 1)) (poQ u k l L s) (anQ u k l s) (atQ u k l s) hn5 hr0 hr1;have hal := zlE s.Free (decide (s.Count.D = 1)) (poQ u k l L s) (anQ u k l s) (atQ u k l s) (s.Count.N % 3).toNat n;apply yp;apply yl;apply X.block;apply yg;refine ya ?_;refine ya (hs := by exact zx ArK.h TyK.h rfl rfl (by omega) (by omega) hpt) ?_;refine zB ?_;refine ya ?_;refine Ex.mo ?_;apply yI;refine ya ?_;refine ya (hs := by exact zf4 rfl rfl ArK.h ty4 (by omega) (by omega)) ?_;refine ya (hs := by exact yG rfl rfl hcell ty4) ?_;refine ExF.at 3 ?_;refine yA ?_;iterate 6 refine ExF.gi ?_
  refine gf ?_ ?_<;>intro hc2
  ·have hst := zuq (r := (s.Count.N % 3).toNat) hc2;refine gq ?_;refine yJ intE [_] ?_;refine gq ?_;refine yz (n + 1)
  ·have hst := zur (r := (s.Count.N % 3).toNat) hc2;refine gq ?_;refine yz (n + 1)
 ·have hn : n = 5 := by omega
  subst hn;have he : alP s.Free (decide (s.Count.D = 1)) (poQ u k l L s) (anQ u k l s) (atQ u k l s) (s.Count.N % 3).toNat 5 = alQ u k l L s := zpA _ _ _;apply X.exit;apply yg;refine zm ?_;refine X.ret ?_;refine ⟨.inr rfl, [(4, .own 5)], [], ye, .one (.tmp rfl (LeV.eq rfl))⟩
end
end Go.Rse
