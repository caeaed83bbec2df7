/-
  Walks: repeated values, durations of ways, rests.
-/
import Derived.Test.YtbilklnipfabpaaGreatDoorZJFull1
import Derived.Test.YtbilklnipfabpaaGreatDoorZShelf0
import Derived.Test.YtbilklnipfabpaaGreatDoorZLogC
import Derived.Test.YtbilklnipfabpaaGreatDoorZLogB
set_option linter.unusedSimpArgs false
set_option linter.unusedVariables false
namespace Go.Rse
open Go Go.Proofs
attribute [local irreducible] Pur yD yE Ex X LeV LeB FnO It yH
theorem zkb (x y : Nat) (hx : x < 18446744073709551616) (hy : y < 18446744073709551616) : Fn Tryz.prog 117 [.int .u64 (x : Int), .int .u64 (y : Int)] (.tup [.int .u64 ((x * y / 18446744073709551616 : Nat) : Int), .int .u64 ((x * y % 18446744073709551616 : Nat) : Int)]) := by
 refine ⟨by kernel_rfl, rfl, fun g w args him hr => ?_⟩;obtain ⟨hl, hv⟩ := hr
 have e : args = [.int .u64 (x : Int), .int .u64 (y : Int)] := by
  match args, hl with
  | [a, b], _ =>
   rw [y2 (hv 0 _ a rfl rfl), y2 (hv 1 _ b rfl rfl)]
 subst e;refine Calls.mono (Tryz.bits_Mul x y hx hy w) ?_
 rintro e w' ⟨rfl, rfl⟩
 refine ⟨_, g, rfl, .tup _ [.int .u64 ((x * y / 18446744073709551616 : Nat) : Int), .int .u64 ((x * y % 18446744073709551616 : Nat) : Int)] rfl (fun j c v hc hv => ?_), Add.refl _ g _, him⟩;rcases j with _ | _ | j
 ·simp at hc hv; subst hc; subst hv; exact .int _ _
 ·simp at hc hv; subst hc; subst hv; exact .int _ _
 ·simp at hc
attribute [local irreducible] Fn
theorem hzS : ∀ (I : Im) (j : Nat) c, (intE 0)[j]? = some c -> RV I noNames c (.int .i64 0) := fun I j c h => by
 cases j with
 | zero => simp [intE] at h; subst h; exact .int _ _
 | succ j => simp [intE] at h
def rpK (v : Int) (n j : Nat) : List Int := List.replicate j v ++ List.replicate (n - j) 0
theorem zpz {v : Int} {n j : Nat} (h : j <= n) : (rpK v n j).length = n := by unfold rpK; simp; omega
theorem ztD (v : Int) (n : Nat) : [v].take (List.replicate n (0 : Int)).length ++ (List.replicate n (0 : Int)).drop (min [v].length (List.replicate n (0 : Int)).length) = rpK v n (min 1 n) := by
 unfold rpK;cases n with
 | zero => rfl
 | succ n => simp [List.replicate_succ]
theorem ztE {v : Int} {n j : Nat} (h : j <= n) (i m : Nat) (hi : i = j) (hm : m = min j (n - j)) : (rpK v n j).take i ++ (rpK v n j).take m ++ (rpK v n j).drop (i + m) = rpK v n (j + m) := by
 subst hi;have h1 : (rpK v n i).take i = List.replicate i v := by unfold rpK; rw [List.take_append_of_le_length (by simp)]; simp
 have h2 : (rpK v n i).take m = List.replicate m v := by unfold rpK; rw [List.take_append_of_le_length (by simp; omega)]; simp; omega
 have h3 : (rpK v n i).drop (i + m) = List.replicate (n - (i + m)) 0 := by
  unfold rpK;have : (List.replicate i v ++ List.replicate (n - i) (0 : Int)).drop ((List.replicate i v).length + m) = (List.replicate (n - i) (0 : Int)).drop m := List.drop_length_add_append ..;rw [List.length_replicate] at this;rw [this, List.drop_replicate]; congr 1; omega
 rw [h1, h2, h3];unfold rpK;rw [List.replicate_append_replicate]
theorem znP (a b : Tm) : 0 <= whQ a b := by
 unfold whQ;split
 ·rename_i h;unfold whE at h;split at h
  ·rename_i h1;have h2 := zcX h1;have ha := zS h2.1;have hb := zS h2.2;exact Int.ediv_nonneg (Int.mul_nonneg ha.1 (by omega)) (Int.mul_nonneg hb.1 (by omega))
  ·rename_i h1; exact absurd h h1
 ·omega
def rsP (m : Mn) (t : Tm) : Nat -> List Int × Tm
 | 0 => ([], t)
 | k + 1 => ((rsP m t k).1 ++ List.replicate (whQ (rsP m t k).2 (fullT m (1 + (k : Int)))).toNat (1 + (k : Int)), whR (rsP m t k).2 (fullT m (1 + (k : Int))))
def rsOk (m : Mn) (t : Tm) (k : Nat) : Bool := decide (whE (rsP m t k).2 (fullT m (1 + (k : Int))) = 0) && decide (whQ (rsP m t k).2 (fullT m (1 + (k : Int))) <= 400 - ((rsP m t k).1.length : Int))
def zeB (m : Mn) (t : Tm) : Bool := (List.range 8).all (rsOk m t) && decide ((rsP m t 8).2.N <= 0)
def bthE (m : Mn) (t : Tm) : Int := if ckM m = 0 then ckT t else ckM m
def rstE (m : Mn) (t : Tm) : Int := if bthE m t = 0 then (if t.N = 0 then 2 else if zeB m t = true then 0 else 18) else bthE m t
def rstV (m : Mn) (t : Tm) : List Int := if rstE m t = 0 then (rsP m t 8).1 else []
theorem zqr (m : Mn) (t : Tm) (k : Nat) : rsP m t (k + 1) = ((rsP m t k).1 ++ List.replicate (whQ (rsP m t k).2 (fullT m (1 + (k : Int)))).toNat (1 + (k : Int)), whR (rsP m t k).2 (fullT m (1 + (k : Int)))) := rfl
theorem znQ {m : Mn} {t : Tm} : ∀ k, (∀ j, j < k -> rsOk m t j = true) -> (rsP m t k).1.length <= 400
 | 0, _ => Nat.zero_le _
 | k + 1, h => by
  have ih := znQ k fun j hj => h j (by omega)
  have hk := h k (by omega);unfold rsOk at hk;simp only [Bool.and_eq_true, decide_eq_true_eq] at hk;rw [zqr];simp only [List.length_append, List.length_replicate];have := znP (rsP m t k).2 (fullT m (1 + (k : Int)));omega
theorem zrP {m : Mn} {t : Tm} {k : Nat} (hk : k < 8) (h : rsOk m t k = false) : zeB m t = false := by
 cases hA : zeB m t with
 | false => rfl
 | true =>
  unfold zeB at hA;simp only [Bool.and_eq_true] at hA;have := List.all_eq_true.1 hA.1 k (by simpa using hk);rw [h] at this; exact absurd this (by decide)
theorem zpA {m : Mn} {t : Tm} (h : ∀ j, j < 8 -> rsOk m t j = true) : zeB m t = decide ((rsP m t 8).2.N <= 0) := by
 unfold zeB;have : (List.range 8).all (rsOk m t) = true := List.all_eq_true.2 fun j hj => h j (by simpa using hj)
 rw [this]; rfl
theorem ztF {m : Mn} {t : Tm} (h : ¬ bthE m t = 0) : bthE m t = rstE m t /\ [] = rstV m t := by
 have e : bthE m t = rstE m t := by unfold rstE; rw [if_neg h]
 exact ⟨e, by unfold rstV; rw [if_neg (by rw [← e]; exact h)]⟩
theorem ztG {m : Mn} {t : Tm} (h : bthE m t = 0) (h0 : t.N = 0) : 2 = rstE m t /\ [] = rstV m t := by
 have e : 2 = rstE m t := by unfold rstE; rw [if_pos h, if_pos h0]
 exact ⟨e, by unfold rstV; rw [if_neg (by rw [← e]; decide)]⟩
theorem znR {m : Mn} {t : Tm} (h : bthE m t = 0) (h0 : ¬ t.N = 0) (hA : zeB m t = false) : 18 = rstE m t /\ [] = rstV m t := by
 have e : 18 = rstE m t := by unfold rstE; rw [if_pos h, if_neg h0, if_neg (by rw [hA]; decide)]
 exact ⟨e, by unfold rstV; rw [if_neg (by rw [← e]; decide)]⟩
theorem zrQ {m : Mn} {t : Tm} (h : bthE m t = 0) (h0 : ¬ t.N = 0) (hA : zeB m t = true) : 0 = rstE m t /\ (rsP m t 8).1 = rstV m t := by
 have e : 0 = rstE m t := by unfold rstE; rw [if_pos h, if_neg h0, if_pos hA]
 exact ⟨e, by unfold rstV; rw [if_pos e.symm]⟩
theorem znS {m : Mn} {t : Tm} (h : bthE m t = 0) : ckM m = 0 /\ ckT t = 0 := by
 unfold bthE at h; split at h
 ·exact ⟨by assumption, h⟩
 ·exact absurd h (by assumption)
attribute [local irreducible] rpK fullT durT mulV mulE whQ whR whE yP rsP rsOk zeB rstE rstV bthE
theorem zbX (v : Int) (n : Nat) (hn : n <= 400) : Fn Tryz.prog 72 [yh [v], iv (n : Int)] (yh (List.replicate n v)) := by
 have hv1 : ([v].length : Int) = 1 := rfl
 have hmul : Fn Tryz.prog 117 [.int .u64 1, .int .u64 (n : Int)] (.tup [.int .u64 0, .int .u64 (n : Int)]) := by
  have h := zkb 1 n (by decide) (by omega);rw [Nat.one_mul, Nat.div_eq_of_lt (by omega), Nat.mod_eq_of_lt (by omega)] at h; exact h
 refine Fn.go Tryz.func72 Tryz.ntmps72 (fun g w d => ?_);apply yb;refine yd ?_;apply ye;apply yb;refine yg ?_;refine ym rfl ?_ ?_<;>intro hc1
 ·omega
 apply yf;apply yb;iterate 2 refine ya ?_
 refine zaq (zeP rfl zqt us3 (IntWalk.u64_in _ (by omega))) rfl ?_;refine ya ?_;refine zaq (zeP rfl zqt us3 (IntWalk.u64_in _ (by omega))) rfl ?_;refine yq hmul ?_;refine zv ?_;apply ye;apply yb;iterate 2 refine ya ?_
 refine ExF.at 2 ?_;refine yF ?_;iterate 2 refine ExF.gi ?_
 refine yC ?_;refine yd ?_;refine ym rfl ?_ ?_<;>intro hc2
 ·(first | omega | (simp at hc2; omega))
 apply yf;apply yb;iterate 2 refine ya ?_
 refine Ex.stepA (zff (k := 30) (enc := intE) 0 sl22 ti3 rfl (by decide) rfl rfl rfl rfl (by omega) (fun _ => rfl) hzS) rfl rfl ?_;refine ya ?_;apply yk;iterate 2 refine ya ?_
 refine zaP (zlJ rfl rfl rfl (fun _ => rfl) (by decide) (fun _ => rfl) sl22 ty3 rfl) ?_;refine yd ?_;apply ye;apply X.block;have hr0 := ztD v n;have hl0 : ((min [v].length (List.replicate n (0 : Int)).length : Nat) : Int) = ((min 1 n : Nat) : Int) := by simp
 refine zw (ι := Nat) (fun (q : Nat) => [(7, .own 30), (8, iv (q : Int))]) (fun (q : Nat) => [(30, .row intE (rpK v n q) 3 1)]) (fun (q : Nat) => q <= n /\ (n ≠ 0 -> 1 <= q)) (fun (q : Nat) => n - q) (min 1 n) (fun q hk => ?_) (hJ := by
  exact ⟨by omega, fun _ => by omega⟩) (h0 := by
  exact yA)
 obtain ⟨hj1, hj2⟩ := hk;have hlen := zpz (v := v) hj1;apply ye;apply yb;refine zaj ?_;refine ym rfl ?_ ?_<;>intro hc3
 ·have hst := ztE (v := v) hj1 (q : Int).toNat (min (q : Int).toNat ((rpK v n q).length - (q : Int).toNat)) (by omega) (by omega);have hst2 : q + min (q : Int).toNat ((rpK v n q).length - (q : Int).toNat) = q + min q (n - q) := by omega
  rw [hst2] at hst;apply yf;apply X.block;refine X.drawP [⟨0, 38, iv (q : Int), []⟩, ⟨1, 39, .own 30, []⟩, ⟨2, 40, iv (q : Int), []⟩, ⟨3, 41, .sub 30 1 (q : Int).toNat ((rpK v n q).length - (q : Int).toNat), [2, 1]⟩, ⟨4, 42, .own 30, []⟩, ⟨5, 43, iv (q : Int), []⟩, ⟨6, 44, .sub 30 1 0 (q : Int).toNat, [5, 4]⟩] [(7, [5, 4, 2, 1, 6, 3]), (8, [5, 4, 2, 1, 6, 3, 7, 0]), (9, [6, 5, 4, 3, 2, 1, 0, 7, 8])] (fun j => match j with | 0 => ⟨[(7, .own 30), (8, iv (q : Int))], [(30, .row intE (rpK v n q) 3 1)]⟩ | 1 => ⟨[(7, .own 30), (8, iv (q : Int)), (45, iv ((min q (n - q) : Nat) : Int))], [(30, .row intE (rpK v n (q + min q (n - q))) 3 1)]⟩ | 2 => ⟨[(7, .own 30), (8, iv (q : Int)), (46, iv ((q + min q (n - q) : Nat) : Int))], [(30, .row intE (rpK v n (q + min q (n - q))) 3 1)]⟩ | _ => ⟨[(7, .own 30), (8, iv ((q + min q (n - q) : Nat) : Int))], [(30, .row intE (rpK v n (q + min q (n - q))) 3 1)]⟩) mo (by kernel_rfl) (zbO (yi)) (fun j hj => ?_) (fun j c hc β hβ => ?_) ?_
  ·rcases j with _ | _ | _ | _ | j
   ·(iterate 3 refine ⟨.inr ⟨_, rfl, rfl, rfl, rfl, yX⟩, ?_⟩);refine ⟨.inr ⟨_, rfl, rfl, rfl, rfl, zcx rfl rfl rfl sl22 ty3 (by omega) (by omega)⟩, ?_⟩;(iterate 2 refine ⟨.inr ⟨_, rfl, rfl, rfl, rfl, yX⟩, ?_⟩);refine ⟨.inr ⟨_, rfl, rfl, rfl, rfl, zeA rfl rfl rfl sl22 ty3 (by omega) (by omega)⟩, ?_⟩;exact True.intro
   ·refine ⟨.inr ⟨_, rfl, rfl, rfl, rfl, yX⟩, ?_⟩;(iterate 6 refine ⟨.inl rfl, ?_⟩);exact True.intro
   ·(iterate 7 refine ⟨.inl rfl, ?_⟩);exact True.intro
   ·(iterate 7 refine ⟨.inl rfl, ?_⟩);exact True.intro
   ·exact absurd (show j + 4 <= 3 from hj) (by omega)
  ·rcases j with _ | _ | _ | j
   ·obtain rfl : (7, [5, 4, 2, 1, 6, 3]) = c := by injection hc
    refine yu rfl (yR (st0 := ⟨[(38, .ifb (β 0) (iv (q : Int))), (39, .own 30), (40, iv (q : Int)), (41, .sub 30 1 (q : Int).toNat ((rpK v n q).length - (q : Int).toNat)), (42, .own 30), (43, iv (q : Int)), (44, .sub 30 1 0 (q : Int).toNat), (7, .own 30), (8, iv (q : Int))], [(30, .row intE (rpK v n q) 3 1)]⟩) (yO) ?_);refine yp (zjt rfl rfl rfl (fun _ => rfl) (by decide) (fun _ => rfl) (by omega) (by omega) sl22 ty3 rfl) (yO)
   ·obtain rfl : (8, [5, 4, 2, 1, 6, 3, 7, 0]) = c := by injection hc
    refine yu rfl (yR (st0 := ⟨[(38, iv (q : Int)), (39, .own 30), (40, iv (q : Int)), (41, .sub 30 1 (q : Int).toNat ((rpK v n q).length - (q : Int).toNat)), (42, .own 30), (43, iv (q : Int)), (44, .sub 30 1 0 (q : Int).toNat), (7, .own 30), (8, iv (q : Int)), (45, iv ((min q (n - q) : Nat) : Int))], [(30, .row intE (rpK v n (q + min q (n - q))) 3 1)]⟩) (yO) ?_);refine yp (yx (Pur.stepA (zqj rfl rfl (IntWalk.i64_in _ (by omega)))) rfl rfl) (yO)
   ·obtain rfl : (9, [6, 5, 4, 3, 2, 1, 0, 7, 8]) = c := by injection hc
    refine yu rfl (yR (st0 := ⟨[(38, iv (q : Int)), (39, .own 30), (40, iv (q : Int)), (41, .sub 30 1 (q : Int).toNat ((rpK v n q).length - (q : Int).toNat)), (42, .own 30), (43, iv (q : Int)), (44, .sub 30 1 0 (q : Int).toNat), (7, .own 30), (8, iv (q : Int)), (46, iv ((q + min q (n - q) : Nat) : Int))], [(30, .row intE (rpK v n (q + min q (n - q))) 3 1)]⟩) (yO) ?_);refine yp (yx (Pur.stepA (za8 rfl)) rfl rfl) (yO)
   ·exact absurd hc (by simp)
  refine yY (q + min q (n - q)) (hJ := by
   exact ⟨by omega, fun _ => by omega⟩) (hm := by omega) (hI := yA)
 ·have hjn : q = n := by omega
  subst hjn;have hfin : rpK v q q = List.replicate q v := by unfold rpK; simp
  apply X.exit;apply yb;refine yg ?_;refine X.ret ?_;refine yo (Imp.freeze (k := 30) rfl) ?_;refine yn ?_;all_goals (exact congrArg yh hfin)
theorem zch (v n : Int) (h0 : 0 <= n) (h4 : n <= 400) : Fn Tryz.prog 72 [yh [v], iv n] (yh (List.replicate n.toNat v)) := by
 obtain ⟨k, rfl⟩ := Int.eq_ofNat_of_zero_le h0;rw [Int.toNat_natCast];exact zbX v k (by omega)
theorem zeC (m : Mn) (t : Tm) : Fn Tryz.prog 39 [mnA m, tmA t] (iv (bthE m t)) := by
 refine Fn.go Tryz.func39 Tryz.ntmps39 (fun g w d => ?_);apply yb;iterate 2 refine yG ?_
 refine yd ?_;apply ye;apply yb;refine ya ?_;refine yq (zaM m) ?_;refine ya ?_;apply yk;refine yg ?_;refine ym rfl ?_ ?_<;>intro hc1
 ·apply yb;refine yg ?_;refine X.ret ?_;refine yn ?_;all_goals (unfold bthE; first | (rw [if_neg hc1]; done) | (rw [if_pos hc1]; done))
 apply yf;apply yb;refine ya ?_;refine yq (zcp t) ?_;refine yd ?_;refine X.ret ?_;refine yn ?_;all_goals (unfold bthE; first | (rw [if_neg hc1]; done) | (rw [if_pos hc1]; done))
theorem zR (m : Mn) (v : Int) (hm : ckM m = 0) (h1 : 1 <= v) (h8 : v <= 8) : Fn Tryz.prog 71 [mnA m, iv v] (tmA (fullT m v)) := by
 refine Fn.go Tryz.func71 Tryz.ntmps71 (fun g w d => ?_);apply yb;refine yG ?_;refine yJ ?_;apply yk;iterate 2 refine ya ?_
 refine yq (zbg hm h1 h8) ?_;iterate 3 refine ya ?_
 refine yJ ?_;refine yj ?_;refine ya ?_;apply yk;refine ya ?_;refine yj ?_;apply Ex.nil;refine X.ret ?_;refine RetQ.ret (.one (.cellA rfl rfl rfl rfl ty46 (LeV.eq ?_)));all_goals (rfl)
theorem zbc (m : Mn) (v : Int) (hm : ckM m = 0) (h1 : 1 <= v) (h8 : v <= 8) : Fn Tryz.prog 76 [mnA m, iv v] (.bool (decide (m.p v = 3))) := by
 refine Fn.go Tryz.func76 Tryz.ntmps76 (fun g w d => ?_);apply yb;refine yG ?_;refine ya ?_;apply yk;iterate 2 refine ya ?_
 refine yq (zdB hm h1 h8) ?_;iterate 5 refine ya ?_
 apply yk;refine yr ?_;refine X.ret ?_;refine yn ?_;all_goals (rfl)
theorem zbY (t : Tm) (n q : Int) : Fn Tryz.prog 77 [tmA t, iv n, iv q] (tmsA [mulV t ⟨n, q⟩]) := by
 refine Fn.go Tryz.func77 Tryz.ntmps77 (fun g w d => ?_);apply yb;refine yG ?_;refine ya ?_;apply yk;iterate 4 refine ya ?_
 refine yq (zcq t ⟨n, q⟩) ?_;iterate 3 refine ya ?_
 refine yJ ?_;refine yj ?_;refine ya ?_;apply yk;refine ya ?_;refine yV tmE [mulV t ⟨n, q⟩] ?_;refine yd ?_;refine X.ret ?_;refine yo (Imp.freeze (k := 18) rfl) ?_;refine yn ?_;all_goals (rfl)
theorem zdi (m : Mn) (v : Int) (hm : ckM m = 0) (h1 : 1 <= v) (h8 : v <= 8) : Fn Tryz.prog 81 [mnA m, iv v] (tmA (durT m v)) := by
 have hD := ziX m v;rw [zmi hm h1 h8, if_pos rfl] at hD;refine Fn.go Tryz.func81 Tryz.ntmps81 (fun g w d => ?_);apply yb;refine yG ?_;refine yJ ?_;apply yk;iterate 2 refine ya ?_
 refine yq hD ?_;iterate 3 refine ya ?_
 refine yJ ?_;refine yj ?_;refine ya ?_;apply yk;refine ya ?_;refine yj ?_;apply Ex.nil;refine X.ret ?_;refine RetQ.ret (.one (.cellA rfl rfl rfl rfl ty46 (LeV.eq ?_)));all_goals (rfl)
set_option maxHeartbeats 2000000 in
theorem zg8 (m : Mn) (t : Tm) : Fn Tryz.prog 35 [mnA m, tmA t] (.tup [yh (rstV m t), iv (rstE m t)]) := by
 refine Fn.go Tryz.func35 Tryz.ntmps35 (fun g w d => ?_);apply yb;iterate 2 refine yG ?_
 refine yg ?_;apply ye;apply yb;iterate 2 refine ya ?_
 refine yq (zeC m t) ?_;refine ya ?_;apply yk;refine yg ?_;refine ym rfl ?_ ?_<;>intro hc1
 ·have hV := ztF hc1;apply yb;refine yr ?_;refine X.ret ?_;refine yo (yi (ts := [(4, yh []), (5, iv (bthE m t))]) (hs := [])) ?_;refine yy ?_ ?_;all_goals (first | exact congrArg yh hV.2 | exact congrArg (AV.int .i64) hV.1)
 apply yf;apply ye;apply yb;refine yr ?_;refine ym rfl ?_ ?_<;>intro hc2
 ·have hV := ztG hc1 hc2;apply yb;refine yg ?_;refine X.ret ?_;refine yo (yi (ts := [(4, yh []), (5, iv 2)]) (hs := [])) ?_;refine yy ?_ ?_;all_goals (first | exact congrArg yh hV.2 | exact congrArg (AV.int .i64) hV.1)
 apply yf;apply yb;refine yd ?_;iterate 2 apply ye
 refine zm (zg intE 3 1 7 7 rfl rfl) ?_;apply yc;refine yd ?_;apply X.block;have hq0 : [] = (rsP m t 0).1 := by unfold rsP; rfl
 have hq1 : tmE t = tmE (rsP m t 0).2 := by unfold rsP; rfl
 have hck := znS hc1
 refine zw (ι := Nat) (fun (k : Nat) => [(2, .ptr 2 0 0 0), (3, .ptr 3 0 0 0), (7, .own 7), (8, iv (1 + (k : Int)))]) (fun (k : Nat) => [(2, .box (mnE m) 24), (3, .box (tmE (rsP m t k).2) 46), (7, .row intE (rsP m t k).1 3 1)]) (fun (k : Nat) => k <= 8 /\ ∀ j, j < k -> rsOk m t j = true) (fun (k : Nat) => 8 - k) 0 (fun k hk => ?_) (hJ := by
  exact ⟨by omega, fun j hj => by omega⟩) (h0 := by
  exact yA)
 obtain ⟨hk1, hk2⟩ := hk;have hrl := znQ k hk2;apply ye;apply yb;refine yg ?_;refine ym rfl ?_ ?_<;>intro hc3
 ·have hq := znP (rsP m t k).2 (fullT m (1 + (k : Int)));apply yf;apply ye;apply X.block;apply ye;refine zC [9,10,25,26,27,28,29,30,31,32,33] [0,0,0,6,15,31,63,63,63,0,639,1791,4095] mo ?_;iterate 3 refine yl ?_
  refine zD (zR m (1 + (k : Int)) hck.1 (by omega) (by omega)) ?_;refine zD (zij (rsP m t k).2 (fullT m (1 + (k : Int)))) ?_;iterate 4 refine yl ?_
  refine ChM.step rfl rfl rfl (zaO (k := 10) zc46) rfl ?_;refine yl ?_;refine zcz 8 ⟨[(2, .ptr 2 0 0 0), (3, .ptr 3 0 0 0), (7, .own 7), (8, iv (1 + (k : Int))), (9, iv (whQ (rsP m t k).2 (fullT m (1 + (k : Int))))), (10, .ptr 10 0 0 0), (11, iv (whE (rsP m t k).2 (fullT m (1 + (k : Int)))))], [(2, .box (mnE m) 24), (3, .box (tmE (rsP m t k).2) 46), (7, .row intE (rsP m t k).1 3 1), (10, .box (tmE (whR (rsP m t k).2 (fullT m (1 + (k : Int))))) 46)]⟩ (fun Q hQ => ?_) (fun Q hQ => ?_) ?_
  ·refine yj ?_;refine ya ?_;exact zf yA hQ
  ·refine yj ?_;(iterate 2 refine ya ?_);exact zf yA hQ
  apply Ex.nil;apply ye;apply yb;iterate 2 refine ya ?_
  refine ExF.at 2 ?_;refine yF ?_;iterate 5 refine ExF.gi ?_
  refine yC ?_;refine yd ?_;refine ym rfl ?_ ?_<;>intro hc4
  ·have hV := znR hc1 hc2 (zrP (k := k) (by omega) (by
    unfold rsOk;rcases hc4 with h | h
    ·rw [decide_eq_false h]; rfl
    ·rw [decide_eq_false (show ¬ whQ (rsP m t k).2 (fullT m (1 + (k : Int))) <= 400 - ((rsP m t k).1.length : Int) by omega)]; simp))
   apply yb;refine yg ?_;refine X.ret ?_;refine yo (yi (ts := [(4, yh []), (5, iv 18)]) (hs := [])) ?_;refine yy ?_ ?_;all_goals (first | exact congrArg yh hV.2 | exact congrArg (AV.int .i64) hV.1)
  have hok : rsOk m t k = true := by
   unfold rsOk; rw [decide_eq_true hc4.1, decide_eq_true (show whQ (rsP m t k).2 (fullT m (1 + (k : Int))) <= 400 - ((rsP m t k).1.length : Int) by omega)]; rfl
  have hst := zqr m t k;have hst1 := (congrArg Prod.fst hst).symm;have hst2 : tmE (whR (rsP m t k).2 (fullT m (1 + (k : Int)))) = tmE (rsP m t (k + 1)).2 := congrArg tmE (congrArg Prod.snd hst).symm;clear hst;apply yf;apply yb;iterate 2 refine ya ?_
  refine yV intE [1 + (k : Int)] ?_;refine zf (Imp.freeze (k := 45) rfl) ?_;refine ya ?_;refine yq (zch (1 + (k : Int)) (whQ (rsP m t k).2 (fullT m (1 + (k : Int)))) hq (by omega)) ?_;refine yj ?_;refine yd ?_;apply yc;refine ya ?_;refine yj ?_;apply Ex.nil;apply yc;refine yr ?_
  refine yY (k + 1) (hJ := by
   exact ⟨by omega, fun j hj => by
    rcases Nat.lt_or_ge j k with h | h
    ·exact hk2 j h
    ·rw [show j = k by omega]; exact hok⟩) (hI := yA)
 ·have hk8 : k = 8 := by omega
  subst hk8;have hg := zpA hk2;apply X.exit;apply ye;apply yb;refine yr ?_;refine ym rfl ?_ ?_<;>intro hc5
  ·have hV := znR hc1 hc2 (by rw [hg]; exact decide_eq_false (by omega));apply yb;refine yg ?_;refine X.ret ?_;refine yo (yi (ts := [(4, yh []), (5, iv 18)]) (hs := [])) ?_;refine yy ?_ ?_;all_goals (first | exact congrArg yh hV.2 | exact congrArg (AV.int .i64) hV.1)
  have hV := zrQ hc1 hc2 (by rw [hg]; exact decide_eq_true (by omega));apply yf;apply yb;refine yr ?_;refine X.ret ?_;refine yo (Imp.freeze (k := 7) rfl) ?_;refine yy ?_ ?_;all_goals (first | exact congrArg yh hV.2 | exact congrArg (AV.int .i64) hV.1)
end Go.Rse
