/-
  Walks.
-/
import Derived.Test.YtkpbljifckjeoaaGreatDoorYJSpan1
set_option linter.unusedSimpArgs false
set_option linter.unusedVariables false
namespace Go.Rse
open Go Go.Proofs
section
attribute [local irreducible] Pur yr yw Ex X Fn Imp LeV LeB FnO It yx
def zaO (m : Mn) (v : Int) : Nat -> Int
 | 0 => 1
 | n + 1 => zaO m v n * m.p (v + n)
def dbl : Nat -> Int
 | 0 => 1
 | n + 1 => dbl n * 2
def yq (m : Mn) (v : Int) : Tm := ⟨zaO m v (5 - v).toNat, dbl (v - 5).toNat⟩
theorem zgp {m : Mn} (h : ckM m = 0) (v : Int) (h1 : 1 <= v) : m.p v = 2 \/ m.p v = 3 := by
 rcases Int.lt_or_le 4 v with h4 | h4
 ·exact .inl (zuF h4)
 ·have ho : m.Ok := by
   unfold ckM at h; split at h
   ·assumption
   ·simp at h
  exact m.ok_iff.1 ho v h1 h4
def pw3 : Nat -> Int
 | 0 => 1
 | n + 1 => pw3 n * 3
theorem ziP {m : Mn} (h : ckM m = 0) {v : Int} (h1 : 1 <= v) : ∀ n, 1 <= zaO m v n /\ zaO m v n <= pw3 n
 | 0 => ⟨Int.le_refl _, Int.le_refl _⟩
 | n + 1 => by
  obtain ⟨a, b⟩ := ziP h h1 n;simp only [zaO, pw3];rcases zgp h (v + n) (by omega) with e | e <;> rw [e] <;> omega
theorem zq4 : ∀ n, n <= 4 -> pw3 n <= 81
 | 0, _ => by decide
 | 1, _ => by decide
 | 2, _ => by decide
 | 3, _ => by decide
 | 4, _ => by decide
 | n + 5, h => by omega
theorem zq5 : ∀ n, n <= 3 -> 1 <= dbl n /\ dbl n <= 8
 | 0, _ => by decide
 | 1, _ => by decide
 | 2, _ => by decide
 | 3, _ => by decide
 | n + 4, h => by omega
theorem znk {m : Mn} {v : Int} (h : ckMV m v = 0) : ckM m = 0 /\ 1 <= v /\ v <= 8 := by
 have h2 := zpN h;refine ⟨?_, h2⟩;unfold ckMV at h; unfold ckM;split at h
 ·rw [if_pos (by assumption)]
 ·omega
def zcv (m : Mn) (j : Nat) : List Int := (([4, 3, 2, 1] : List Int).take j).filter fun v => decide (m.p v = 3)
theorem zmD (m : Mn) (j : Nat) : (zcv m j).length <= 4 := by
 unfold zcv;refine Nat.le_trans (List.length_filter_le _ _) ?_;simp; omega
theorem zia (j : Nat) (h : j < 4) : ([4, 3, 2, 1] : List Int)[j]? = some (4 - (j : Int)) := by
 have : j = 0 \/ j = 1 \/ j = 2 \/ j = 3 := by omega
 rcases this with rfl | rfl | rfl | rfl <;> rfl
theorem zmE {m : Mn} {j : Nat} (h : j < 4) (hp : m.p (4 - (j : Int)) = 3) : zcv m j ++ [4 - (j : Int)] = zcv m (j + 1) := by
 unfold zcv;rw [List.take_add_one, zia j h, List.filter_append]; simp [hp]
theorem znl {m : Mn} {j : Nat} (h : j < 4) (hp : ¬ m.p (4 - (j : Int)) = 3) : zcv m j = zcv m (j + 1) := by
 unfold zcv;rw [List.take_add_one, zia j h, List.filter_append]; simp [hp]
theorem zmF (m : Mn) : zcv m 4 = perfL m := rfl
theorem zln (m : Mn) (v : Int) (j : Nat) : zaO m v j * m.p (v + (j : Int)) = zaO m v (j + 1) := rfl
theorem zq6 (j : Nat) : dbl j * 2 = dbl (j + 1) := rfl
theorem zrX (j : Nat) : 2 * dbl j = dbl (j + 1) := by rw [← zq6]; exact Int.mul_comm _ _
attribute [local irreducible] zaO dbl zcv perfL
theorem zjI (m : Mn) (v : Int) (hm : ckM m = 0) (h1 : 1 <= v) (h8 : v <= 8) : Fn Tryz.prog 172 [mnA m, iv v] (tmA (yq m v)) := by
 have hp0 : zaO m v 0 = 1 := by unfold zaO; rfl
 have hd0 : dbl 0 = 1 := by unfold dbl; rfl
 refine Fn.go Tryz.func172 Tryz.ntmps172 (fun g w d => ?_);refine gq ?_;refine yS (ι := Nat) (fun (j : Nat) => [(1, iv v), (2, .ptr 2 0 0 0), (4, .ptr 4 0 0 0), (5, iv (zaO m v j)), (6, iv 1), (7, iv (v + (j : Int)))]) (fun (j : Nat) => [(2, .box (mnE m) 32), (4, .box [iv 0, iv 0] 25)]) (fun (j : Nat) => j <= (5 - v).toNat) (fun (j : Nat) => (5 - v).toNat - j) 0 (fun j hk => ?_);refine gd ?_ ?_<;>intro hc1
 ·have hjv : j < (5 - v).toNat := by omega
  have hb := ziP (m := m) hm h1 j;have hb2 := zq4 j (by omega);have hp := zgp hm (v + j) (by omega);have hst := zln m v j;have hpm : 0 <= zaO m v j * m.p (v + (j : Int)) /\ zaO m v j * m.p (v + (j : Int)) <= 1000 := by rcases hp with e | e <;> rw [e] <;> omega
  refine gq ?_;refine yb (zil m (v + (j : Int)) (by omega) (by omega)) ?_;refine gq ?_;refine yz (j + 1)
 ·have hj : j = (5 - v).toNat := by omega
  subst hj;refine gq ?_;refine yS (ι := Nat) (fun (j : Nat) => [(1, iv v), (2, .ptr 2 0 0 0), (4, .ptr 4 0 0 0), (5, iv (zaO m v (5 - v).toNat)), (6, iv (dbl j)), (8, iv (5 + (j : Int)))]) (fun (j : Nat) => [(2, .box (mnE m) 32), (4, .box [iv 0, iv 0] 25)]) (fun (j : Nat) => j <= (v - 5).toNat) (fun (j : Nat) => (v - 5).toNat - j) 0 (fun j hk => ?_);refine gd ?_ ?_<;>intro hc2
  ·have hb := zq5 j (by omega);have hst := zq6 j;refine gq ?_;refine yz (j + 1)
  ·have hj : j = (v - 5).toNat := by omega
   subst hj;refine gq ?_;refine RetQ.ret (.one (.cellA rfl rfl rfl rfl ty25 (LeV.eq ?_)));all_goals (rfl)
theorem zjJ (m : Mn) (v : Int) : Fn Tryz.prog 129 [mnA m, iv v] (.tup [tmA (if ckMV m v = 0 then yq m v else tmZ), iv (ckMV m v)]) := by
 refine Fn.go Tryz.func129 Tryz.ntmps129 (fun g w d => ?_);refine gq ?_;refine yb (zbY m v) ?_;refine gd ?_ ?_<;>intro hc1
 ·refine gq ?_;refine yH ty25 ?_ ?_;all_goals (first | rfl | (rw [if_neg hc1]; done) | (rw [if_neg hc1]; rfl) | (rw [if_pos hc1]; done) | (rw [if_pos hc1]; rfl) | (rw [hc1]; done) | (rw [hc1]; rfl))
 have h3 := znk hc1;refine gq ?_;refine yb (zjI m v h3.1 h3.2.1 h3.2.2) ?_;refine gq ?_;refine yH ty25 ?_ ?_;all_goals (first | rfl | (rw [if_neg hc1]; done) | (rw [if_neg hc1]; rfl) | (rw [if_pos hc1]; done) | (rw [if_pos hc1]; rfl) | (rw [hc1]; done) | (rw [hc1]; rfl))
theorem zew (m : Mn) (v : Int) : Fn Tryz.prog 163 [mnA m, iv v] (.tup [tmA (if ckMV m v = 0 then yq m v else tmZ), iv (ckMV m v)]) := by
 have hp0 : zaO m v 0 = 1 := by unfold zaO; rfl
 have hd0 : dbl 0 = 1 := by unfold dbl; rfl
 refine Fn.go Tryz.func163 Tryz.ntmps163 (fun g w d => ?_);refine gq ?_;refine yb (zeg m v) ?_;refine gd ?_ ?_<;>intro hc1
 ·refine gq ?_;refine yH ty25 ?_ ?_;all_goals (first | rfl | (rw [if_neg hc1]; done) | (rw [if_neg hc1]; rfl) | (rw [if_pos hc1]; done) | (rw [if_pos hc1]; rfl) | (rw [hc1]; done) | (rw [hc1]; rfl))
 have h3 := znk hc1;have hm := h3.1;have h1 := h3.2.1;have h8 := h3.2.2;refine gq ?_;refine yS (ι := Nat) (fun (j : Nat) => [(1, iv v), (2, .ptr 2 0 0 0), (4, .ptr 4 0 0 0), (5, iv 0), (7, iv (zaO m v j)), (8, iv 1), (9, iv (v + (j : Int)))]) (fun (j : Nat) => [(2, .box (mnE m) 32), (4, .box [iv 0, iv 0] 25)]) (fun (j : Nat) => j <= (5 - v).toNat) (fun (j : Nat) => (5 - v).toNat - j) 0 (fun j hk => ?_);refine gd ?_ ?_<;>intro hc2
 ·have hjv : j < (5 - v).toNat := by omega
  have hb := ziP (m := m) hm h1 j;have hb2 := zq4 j (by omega);have hp := zgp hm (v + j) (by omega);have hst := zln m v j;have hpm : 0 <= zaO m v j * m.p (v + (j : Int)) /\ zaO m v j * m.p (v + (j : Int)) <= 1000 := by rcases hp with e | e <;> rw [e] <;> omega
  refine gq ?_;refine yb (zq m (v + (j : Int))) ?_;refine gq ?_;refine yz (j + 1)
 ·have hj : j = (5 - v).toNat := by omega
  subst hj;refine gq ?_;refine yS (ι := Nat) (fun (j : Nat) => [(1, iv v), (2, .ptr 2 0 0 0), (4, .ptr 4 0 0 0), (5, iv 0), (7, iv (zaO m v (5 - v).toNat)), (8, iv (dbl j)), (10, iv (v - (j : Int)))]) (fun (j : Nat) => [(2, .box (mnE m) 32), (4, .box [iv 0, iv 0] 25)]) (fun (j : Nat) => j <= (v - 5).toNat) (fun (j : Nat) => (v - 5).toNat - j) 0 (fun j hk => ?_);refine gd ?_ ?_<;>intro hc3
  ·have hb := zq5 j (by omega);have hst := zrX j;refine gq ?_;refine yz (j + 1)
  ·have hj : j = (v - 5).toNat := by omega
   subst hj;refine gq ?_;refine yH ty25 ?_ ?_;all_goals (first | rfl | (rw [if_neg hc1]; done) | (rw [if_neg hc1]; rfl) | (rw [if_pos hc1]; done) | (rw [if_pos hc1]; rfl) | (rw [hc1]; done) | (rw [hc1]; rfl))
theorem zdp (m : Mn) : Fn Tryz.prog 216 [mnA m] (.tup [yf (if ckM m = 0 then perfL m else []), iv (ckM m)]) := by
 have hq0 : [] = zcv m 0 := by unfold zcv; rfl
 have hq4 := zmF m;refine Fn.go Tryz.func216 Tryz.ntmps216 (fun g w d => ?_);refine gq ?_;refine yb (zD m) ?_;refine gd ?_ ?_<;>intro hc1
 ·apply yg;refine zh ?_;refine X.ret ?_;refine RetQ.imp (ye (ts := [(2, yf []), (3, iv (ckM m))]) (hs := [])) ?_;refine yi ?_ ?_;all_goals (first | (rw [if_neg hc1]; done) | rfl | (rw [if_pos hc1, ← hq4]; rfl) | (rw [if_pos hc1, ← hq4]; done) | (rw [hc1]; done) | (rw [hc1]; rfl))
 apply yp;apply yg;refine yu ?_;iterate 2 apply yl
 refine X.imp (yL intE 3 1 5 5 rfl rfl) ?_;refine gq ?_;refine yS (ι := Nat) (fun (j : Nat) => [(1, .ptr 1 0 0 0), (5, .own 5), (6, iv (4 - (j : Int)))]) (fun (j : Nat) => [(1, .box (mnE m) 32), (5, .row intE (zcv m j) 3 1)]) (fun (j : Nat) => j <= 4) (fun (j : Nat) => 4 - j) 0 (fun j hk => ?_);refine gd ?_ ?_<;>intro hc2
 ·have hlen := zmD m j;refine gq ?_;refine yb (zq m (4 - (j : Int))) ?_;refine gd ?_ ?_<;>intro hc3
  ·have hrow := zmE (by omega) hc3;refine gq ?_;refine yJ intE [_] ?_;refine gq ?_;refine yz (j + 1)
  ·have hrow := znl (by omega) hc3;refine gq ?_;refine yz (j + 1)
 ·have hj : j = 4 := by omega
  subst hj;apply X.exit;apply yg;refine zh ?_;refine X.ret ?_;refine RetQ.imp (Imp.freeze (k := 5) rfl) ?_;refine yi ?_ ?_;all_goals (first | (rw [if_neg hc1]; done) | rfl | (rw [if_pos hc1, ← hq4]; rfl) | (rw [if_pos hc1, ← hq4]; done) | (rw [hc1]; done) | (rw [hc1]; rfl))
end
section
attribute [local irreducible] Pur yr yw Ex X Fn Imp LeV LeB FnO It yx
def Mn.pl (m : Mn) : Bool := decide (m.Max = 2) && decide (m.Mod = 2) && decide (m.Tem = 2) && decide (m.Pro = 2)
def durR (m : Mn) : Nat -> Int -> Tm
 | 0, v => if m.pl = true then mulV (yq m v) ⟨2, 3⟩ else yq m v
 | n + 1, v => if m.pl = true then mulV (yq m v) ⟨2, 3⟩ else if m.p v = 3 then mulV (yq m v) ⟨2, 3⟩ else mulV (durR m n (v + 1)) ⟨2, 1⟩
def durT (m : Mn) (v : Int) : Tm := durR m (5 - v).toNat v
theorem zlo {m : Mn} {v : Int} (h : m.pl = true) : durT m v = mulV (yq m v) ⟨2, 3⟩ := by
 unfold durT; cases (5 - v).toNat <;> simp [durR, h]
theorem zjK {m : Mn} {v : Int} (h : m.pl = false) (h5 : 5 <= v) : durT m v = yq m v := by
 unfold durT; rw [show (5 - v).toNat = 0 by omega]; simp [durR, h]
theorem znm {m : Mn} {v : Int} (h : m.pl = false) (h5 : v < 5) (h3 : m.p v = 3) : durT m v = mulV (yq m v) ⟨2, 3⟩ := by
 unfold durT; rw [show (5 - v).toNat = (4 - v).toNat + 1 by omega]; simp [durR, h, h3]
theorem znn {m : Mn} {v : Int} (h : m.pl = false) (h5 : v < 5) (h3 : ¬ m.p v = 3) : durT m v = mulV (durT m (v + 1)) ⟨2, 1⟩ := by
 unfold durT; rw [show (5 - v).toNat = (5 - (v + 1)).toNat + 1 by omega]; simp [durR, h, h3]
theorem zbC {m : Mn} {v : Int} (hm : ckM m = 0) (h1 : 1 <= v) (h8 : v <= 8) : Fn Tryz.prog 129 [mnA m, iv v] (.tup [tmA (yq m v), iv 0]) := by
 have h := zjJ m v
 have h0 : ckMV m v = 0 := by
  unfold ckM at hm; unfold ckMV;split at hm
  ·rw [if_pos (by assumption), if_pos ⟨h1, h8⟩]
  ·simp at hm
 rw [h0, if_pos rfl] at h; exact h
theorem zem {m : Mn} {v : Int} (hm : ckM m = 0) (h1 : 1 <= v) (h8 : v <= 8) : Fn Tryz.prog 76 [mnA m, iv v] (.tup [iv (m.p v), iv 0]) := by
 have h := zcZ m v
 have h0 : ckMV m v = 0 := by
  unfold ckM at hm; unfold ckMV;split at hm
  ·rw [if_pos (by assumption), if_pos ⟨h1, h8⟩]
  ·simp at hm
 rw [h0, if_pos rfl] at h; exact h
attribute [local irreducible] yq durT mulV
theorem zdq (t : Tm) : Fn Tryz.prog 171 [tmA t] (tmA (mulV t ⟨2, 3⟩)) := by
 refine Fn.go Tryz.func171 Tryz.ntmps171 (fun g w d => ?_);refine gq ?_;refine yb (zcY t ⟨2, 3⟩) ?_;refine gq ?_;refine RetQ.ret (.one (.cellA rfl rfl rfl rfl ty25 (LeV.eq ?_)));all_goals (rfl)
theorem zhQ (m : Mn) (hm : ckM m = 0) (v : Int) (h1 : 1 <= v) (h8 : v <= 8) : FnO Tryz.prog 170 [iv v, .ptr 2000000 0 0 0, .ptr 2000001 0 0 0, .ptr 2000002 0 0 0] [(2000000, .box (mnE m) 32), (2000001, .box [.bool m.pl] 4), (2000002, .box [.fn 170 [.ptr 2000000 0 0 0, .ptr 2000001 0 0 0, .ptr 2000002 0 0 0]] 224)] [2000000, 2000001, 2000002] (tmA (durT m v)) [(2000000, .box (mnE m) 32), (2000001, .box [.bool m.pl] 4), (2000002, .box [.fn 170 [.ptr 2000000 0 0 0, .ptr 2000001 0 0 0, .ptr 2000002 0 0 0]] 224)] := by
 induction hn : (5 - v).toNat using Nat.strongRecOn generalizing v
 rename_i n ih;refine FnO.introX (ts := [(0, iv v), (1, .ptr 2000000 0 0 0), (2, .ptr 2000001 0 0 0), (3, .ptr 2000002 0 0 0)]) (rv := [.cell 5 25]) (n := 47) (cs := [.ptr 2000000 0 0 0, .ptr 2000001 0 0 0, .ptr 2000002 0 0 0]) (by kernel_rfl) Tryz.func170 rfl Tryz.ntmps170 rfl rfl (by simp) rfl rfl rfl rfl (fun g w d vs => ?_);refine gq ?_;refine yb (zbC hm h1 h8) ?_;refine gq ?_;refine yb (zem hm h1 h8) ?_;refine gd ?_ ?_<;>intro hc1
 ·have hD := zlo (v := v) hc1;refine gq ?_;refine yb (zdq _) ?_;refine Ex.mo ?_;apply Ex.nil;refine X.ret ?_;refine ziE.mk [(5, .ptr 5 0 0 0)] [(5, .box (tmE (mulV (yq m v) ⟨2, 3⟩)) 25)] (.inr rfl) (.one (.cellA rfl rfl rfl rfl ty25 (LeV.eq ?_)));all_goals (rw [hD])
 refine gd ?_ ?_<;>intro hc2
 ·have hD := zjK hc1 hc2;apply yg;refine ya ?_;refine Ex.mo ?_;apply Ex.nil;refine X.ret ?_;refine ziE.mk [(5, .ptr 5 0 0 0)] [(5, .box (tmE (yq m v)) 25)] (.inr rfl) (.one (.cellA rfl rfl rfl rfl ty25 (LeV.eq ?_)));all_goals (rw [hD])
 refine gd ?_ ?_<;>intro hc3
 ·have hD := znm hc1 hc2 hc3;refine gq ?_;refine yb (zdq _) ?_;refine Ex.mo ?_;apply Ex.nil;refine X.ret ?_;refine ziE.mk [(5, .ptr 5 0 0 0)] [(5, .box (tmE (mulV (yq m v) ⟨2, 3⟩)) 25)] (.inr rfl) (.one (.cellA rfl rfl rfl rfl ty25 (LeV.eq ?_)));all_goals (rw [hD])
 have hD := znn hc1 hc2 hc3;refine gq ?_;refine zaF [(2000000, 2000000), (2000001, 2000001), (2000002, 2000002)] (ih (5 - (v + 1)).toNat (by omega) (v + 1) (by omega) (by omega) rfl) ?_;refine gq ?_;refine yb (zcY (durT m (v + 1)) ⟨2, 1⟩) ?_;iterate 3 refine ya ?_
 refine zB ?_;refine Ex.mo ?_;refine ya ?_;apply yI;refine ya ?_;refine Ex.mo ?_;apply Ex.nil;refine X.ret ?_;refine ziE.mk [(5, .ptr 5 0 0 0)] [(5, .box (tmE (mulV (durT m (v + 1)) ⟨2, 1⟩)) 25)] (.inr rfl) (.one (.cellA rfl rfl rfl rfl ty25 (LeV.eq ?_)));all_goals (rw [hD])
theorem zfU (m : Mn) (hm : ckM m = 0) (v : Int) (h1 : 1 <= v) (h8 : v <= 8) : Fn Tryz.prog 128 [mnA m, iv v] (tmA (durT m v)) := by
 have hpl : (decide (m.Max = 2) && decide (m.Mod = 2) && decide (m.Tem = 2) && decide (m.Pro = 2)) = m.pl := by unfold Mn.pl; rfl
 refine Fn.go Tryz.func128 Tryz.ntmps128 (fun g w d => ?_);apply yg;refine zaS ?_;refine zB ?_;apply yI;iterate 3 refine ya ?_
 refine ExF.at 3 ?_;refine yA ?_;iterate 3 refine ExF.gi ?_
 iterate 2 refine yA ?_
 iterate 3 refine ExF.gi ?_
 iterate 2 refine yA ?_
 iterate 3 refine ExF.gi ?_
 refine ge ?_;refine zaF [(2000000, 2), (2000001, 5), (2000002, 6)] (zhQ m hm v h1 h8) ?_;refine gq ?_;refine RetQ.ret (.one (.cellA rfl rfl rfl rfl ty25 (LeV.eq ?_)));all_goals (rfl)
theorem zjL (m : Mn) (v : Int) : Fn Tryz.prog 192 [mnA m, iv v] (.tup [tmA (if ckMV m v = 0 then durT m v else tmZ), iv (ckMV m v)]) := by
 refine Fn.go Tryz.func192 Tryz.ntmps192 (fun g w d => ?_);refine gq ?_;refine yb (zat m) ?_;refine gd ?_ ?_<;>intro hc1
 ·have hE : ckMV m v = ckM m := by unfold ckMV ckM at *; split <;> simp_all
  refine gq ?_;refine yH ty25 ?_ ?_;all_goals (first | (rw [hE]; done) | (rw [hE, if_pos rfl]; done) | (rw [hE, if_pos rfl]; rfl) | (rw [hE, if_neg hc1]; rfl) | (rw [hE]; rfl))
 apply yp;apply yl;apply yg;iterate 2 refine ya ?_
 refine ExF.at 2 ?_;refine yA ?_;iterate 2 refine ExF.gi ?_
 refine gf ?_ ?_<;>intro hc2
 ·have hE : ckMV m v = 2 := by unfold ckM at hc1; unfold ckMV; split at hc1 <;> simp_all; omega
  refine gq ?_;refine yH ty25 ?_ ?_;all_goals (first | (rw [hE]; done) | (rw [hE, if_pos rfl]; done) | (rw [hE, if_pos rfl]; rfl) | (rw [hE, if_neg hc1]; rfl) | (rw [hE]; rfl))
 have hE : ckMV m v = 0 := by unfold ckM at hc1; unfold ckMV; split at hc1 <;> simp_all <;> omega
 refine gq ?_;refine yb (zfU m hc1 v (by omega) (by omega)) ?_;refine gq ?_;refine yH ty25 ?_ ?_;all_goals (first | (rw [hE]; done) | (rw [hE, if_pos rfl]; done) | (rw [hE, if_pos rfl]; rfl) | (rw [hE, if_neg hc1]; rfl) | (rw [hE]; rfl))
end
section
def zgM (f : Mn -> Int -> Bool) : Bool := ([2, 3] : List Int).all fun a => ([2, 3] : List Int).all fun b => ([2, 3] : List Int).all fun c => ([2, 3] : List Int).all fun e => ([1, 2, 3, 4, 5, 6, 7, 8] : List Int).all fun v => f ⟨a, b, c, e⟩ v
theorem zcw {f : Mn -> Int -> Bool} (h : zgM f = true) {m : Mn} {v : Int} (hm : ckM m = 0) (h1 : 1 <= v) (h8 : v <= 8) : f m v = true := by
 have ho : m.Ok := by
  unfold ckM at hm; split at hm
  ·assumption
  ·simp at hm
 obtain ⟨a, b, c, e⟩ := m;have hv : v ∈ ([1, 2, 3, 4, 5, 6, 7, 8] : List Int) := by simp; omega
 have h2 : ∀ x : Int, two3 x -> x ∈ ([2, 3] : List Int) := fun x hx => by simpa [two3] using hx
 unfold zgM at h;exact List.all_eq_true.1 (List.all_eq_true.1 (List.all_eq_true.1 (List.all_eq_true.1 (List.all_eq_true.1 h a (h2 _ ho.1)) b (h2 _ ho.2.1)) c (h2 _ ho.2.2.1)) e (h2 _ ho.2.2.2)) v hv
def zq7 (m : Mn) (v : Int) : Bool :=
 decide (mulV (yq m v) ⟨2, 3⟩ = tmkT ((yq m v).N * 2) ((yq m v).D * 3)) && decide (mulV (durT m v) ⟨2, 1⟩ = tmkT ((durT m v).N * 2) ((durT m v).D * 1)) &&
 decide (ckT (yq m v) = 0) && decide (ckT (durT m v) = 0) && decide ((yq m v).N <= 81) && decide ((yq m v).D <= 8) && decide ((durT m v).N <= 81) && decide ((durT m v).D <= 24) && decide (1 <= (yq m v).N) && decide (1 <= (durT m v).N)
theorem zmG : zgM zq7 = true := by kernel_rfl
theorem zdT {m : Mn} {v : Int} (hm : ckM m = 0) (h1 : 1 <= v) (h8 : v <= 8) : mulV (yq m v) ⟨2, 3⟩ = tmkT ((yq m v).N * 2) ((yq m v).D * 3) /\ mulV (durT m v) ⟨2, 1⟩ = tmkT ((durT m v).N * 2) ((durT m v).D * 1) ∧
 ckT (yq m v) = 0 /\ ckT (durT m v) = 0 /\ (yq m v).N <= 81 /\ (yq m v).D <= 8 /\ (durT m v).N <= 81 /\ (durT m v).D <= 24 /\ 1 <= (yq m v).N /\ 1 <= (durT m v).N := by
 have h := zcw zmG hm h1 h8;unfold zq7 at h;simp only [Bool.and_eq_true, decide_eq_true_eq] at h;obtain ⟨⟨⟨⟨⟨⟨⟨⟨⟨a, b⟩, c⟩, d⟩, e⟩, f⟩, g⟩, i⟩, j⟩, k⟩ := h;exact ⟨a, b, c, d, e, f, g, i, j, k⟩
theorem zjM (m : Mn) (hm : ckM m = 0) : ((perfL m).length : Int) = 0 ↔ m.pl = true := by
 have h : ∀ v : Int, 1 <= v -> m.p v = 2 \/ m.p v = 3 := zgp hm;have a := h 1 (by omega); have b := h 2 (by omega); have c := h 3 (by omega); have e := h 4 (by omega);have e1 : m.p 1 = m.Max := rfl;have e2 : m.p 2 = m.Mod := rfl;have e3 : m.p 3 = m.Tem := rfl;have e4 : m.p 4 = m.Pro := rfl;unfold perfL Mn.pl;rw [e1] at a; rw [e2] at b; rw [e3] at c; rw [e4] at e;simp only [List.filter_cons, e1, e2, e3, e4, List.filter_nil];rcases a with a | a <;> rcases b with b | b <;> rcases c with c | c <;> rcases e with e | e <;> simp [a, b, c, e]
end
section
attribute [local irreducible] Pur yr yw Ex X Fn Imp LeV LeB FnO It yx
theorem zkG {m : Mn} {v : Int} (hm : ckM m = 0) (h1 : 1 <= v) (h8 : v <= 8) : ckMV m v = 0 := by
 unfold ckM at hm; unfold ckMV;split at hm
 ·rw [if_pos (by assumption), if_pos ⟨h1, h8⟩]
 ·simp at hm
theorem zaA {m : Mn} {v : Int} (hm : ckM m = 0) (h1 : 1 <= v) (h8 : v <= 8) : Fn Tryz.prog 163 [mnA m, iv v] (.tup [tmA (yq m v), iv 0]) := by
 have h := zew m v;rw [zkG hm h1 h8, if_pos rfl] at h; exact h
theorem zdg {m : Mn} (hm : ckM m = 0) : Fn Tryz.prog 216 [mnA m] (.tup [yf (perfL m), iv 0]) := by
 have h := zdp m;rw [hm, if_pos rfl] at h; exact h
theorem zjN {m : Mn} (hm : ckM m = 0) (h : ¬ ((perfL m).length : Int) = 0) : m.pl = false := by
 cases hp : m.pl with
 | false => rfl
 | true => exact absurd ((zjM m hm).2 hp) h
theorem zrY {m : Mn} {v : Int} (hm : ckM m = 0) (h1 : 1 <= v) (h8 : v <= 8) (h : ((perfL m).length : Int) = 0 \/ (v < 5 /\ m.p v = 3)) : durT m v = tmkT ((yq m v).N * 2) ((yq m v).D * 3) := by
 rw [← (zdT hm h1 h8).1];cases hp : m.pl with
 | true => exact zlo hp
 | false =>
  rcases h with h | h
  ·rw [(zjM m hm).1 h] at hp; cases hp
  ·exact znm hp h.1 h.2
theorem zrZ {m : Mn} {v : Int} (hm : ckM m = 0) (h1 : 1 <= v) (hp : m.pl = false) (h5 : v < 5) (h3 : ¬ m.p v = 3) : durT m v = tmkT ((durT m (v + 1)).N * 2) ((durT m (v + 1)).D * 1) := by
 rw [← (zdT hm (show 1 <= v + 1 by omega) (by omega)).2.1];exact znn hp h5 h3
def clr (s : Sg) : Bool := decide (s.Kind = 1) && s.Color
def zdc (l : List Sg) (by' : Int) : Nat -> Int -> Option Sg
 | 0, _ => none
 | n + 1, i => if 0 <= i /\ i < (l.length : Int) then (if (l.getD i.toNat default).Kind = 3 then zdc l by' n (i + by') else some (l.getD i.toNat default)) else none
def zfV (l : List Sg) (by' i : Int) : Option Sg := zdc l by' (l.length + 2) i
theorem zmH {l : List Sg} {by' : Int} {n : Nat} {i : Int} (h : ¬ (0 <= i /\ i < (l.length : Int))) : zdc l by' n i = none := by
 cases n with
 | zero => rfl
 | succ n => unfold zdc; rw [if_neg h]
theorem zmI {l : List Sg} {by' : Int} {n : Nat} {i : Int} (h : 0 <= i /\ i < (l.length : Int)) (h3 : ¬ (l.getD i.toNat default).Kind = 3) (hn : 0 < n) : zdc l by' n i = some (l.getD i.toNat default) := by
 cases n with
 | zero => omega
 | succ n => unfold zdc; rw [if_pos h, if_neg h3]
theorem zno {l : List Sg} {by' : Int} {n : Nat} {i : Int} (h : 0 <= i /\ i < (l.length : Int)) (h3 : (l.getD i.toNat default).Kind = 3) (hn : 0 < n) : zdc l by' n i = zdc l by' (n - 1) (i + by') := by
 cases n with
 | zero => omega
 | succ n => conv => lhs; unfold zdc
             rw [if_pos h, if_pos h3]; rfl
def frB : Option Sg -> Bool
 | some s => !clr s
 | none => true
def zbe (l : List Sg) (i : Int) : Bool := decide (i + 1 < (l.length : Int)) && clr (l.getD i.toNat default) && decide ((l.getD i.toNat default).Value = 4) && clr (l.getD (i + 1).toNat default) && decide ((l.getD (i + 1).toNat default).Value = 5) &&
 !(decide (i + 2 < (l.length : Int)) && decide ((l.getD (i + 2).toNat default).Kind = 3)) && frB (zfV l (-1) (i - 1)) && frB (zfV l 1 (i + 2))
attribute [local irreducible] yq durT mulV tmkT perfL zdc
theorem zbv (t : Tm) (n q : Int) (hp : 0 <= t.N * n /\ t.N * n <= 9223372036854775807) (hq : 0 <= t.D * q /\ t.D * q <= 9223372036854775807) : Fn Tryz.prog 217 [tmA t, iv n, iv q] (tmA (tmkT (t.N * n) (t.D * q))) := by
 refine Fn.go Tryz.func217 Tryz.ntmps217 (fun g w d => ?_);refine gq ?_;refine yb (zbS (t.N * n) (t.D * q) (by omega) (by omega)) ?_;refine gq ?_;refine RetQ.ret (.one (.cellA rfl rfl rfl rfl ty25 (LeV.eq ?_)));all_goals (rfl)
theorem zeT (m : Mn) (hm : ckM m = 0) (v : Int) (h1 : 1 <= v) (h8 : v <= 8) : Fn Tryz.prog 199 [mnA m, iv v] (tmA (durT m v)) := by
 induction hn : (5 - v).toNat using Nat.strongRecOn generalizing v
 rename_i n ih;have hf := zdT hm h1 h8;have hb1 := zbp hf.2.2.1;refine Fn.go Tryz.func199 Tryz.ntmps199 (fun g w d => ?_);refine gq ?_;refine yb (zaA hm h1 h8) ?_;refine gq ?_;refine yb (zdg hm) ?_;refine zko ?_;apply yl;apply X.block;apply yg;iterate 3 refine ya ?_
 refine ExF.at 3 ?_;refine gq ?_;refine ExF.cg (zq m v) ?_;iterate 2 refine ExF.gi ?_
 refine gf ?_ ?_<;>intro hc1
 ·have hD := zrY hm h1 h8 hc1;refine gq ?_;refine yb (zbv (yq m v) 2 3 (by omega) (by omega)) ?_;refine gq ?_;refine RetQ.ret (.one (.cellA rfl rfl rfl rfl ty25 (LeV.eq ?_)));all_goals (rw [hD]; rfl)
 refine gd ?_ ?_<;>intro hc2
 ·have hD := zjK (zjN hm hc1.1) hc2;refine gq ?_;refine RetQ.ret (.one (.cellA rfl rfl rfl rfl ty25 (LeV.eq ?_)));all_goals (rw [hD]; rfl)
 have hD := zrZ hm h1 (zjN hm hc1.1) hc2 (by omega);have hf2 := zdT hm (show 1 <= v + 1 by omega) (by omega);have hb2 := zbp hf2.2.2.2.1;refine gq ?_;refine yb (ih (5 - (v + 1)).toNat (by omega) (v + 1) (by omega) (by omega) rfl) ?_;refine yb (zbv (durT m (v + 1)) 2 1 (by omega) (by omega)) ?_;refine gq ?_;refine RetQ.ret (.one (.cellA rfl rfl rfl rfl ty25 (LeV.eq ?_)));all_goals (rw [hD]; rfl)
theorem zeU (m : Mn) (v : Int) : Fn Tryz.prog 164 [mnA m, iv v] (.tup [tmA (if ckMV m v = 0 then durT m v else tmZ), iv (ckMV m v)]) := by
 refine Fn.go Tryz.func164 Tryz.ntmps164 (fun g w d => ?_);refine gq ?_;refine yb (zD m) ?_;refine gd ?_ ?_<;>intro hc1
 ·have hE : ckMV m v = ckM m := by unfold ckMV ckM at *; split <;> simp_all
  refine gq ?_;refine yH ty25 ?_ ?_;all_goals (first | (rw [hE]; done) | (rw [hE, if_pos rfl]; done) | (rw [hE, if_pos rfl]; rfl) | (rw [hE, if_neg hc1]; rfl) | (rw [hE]; rfl))
 apply yp;apply yl;apply yg;iterate 2 refine ya ?_
 refine ExF.at 2 ?_;refine yA ?_;iterate 2 refine ExF.gi ?_
 refine gf ?_ ?_<;>intro hc2
 ·have hE : ckMV m v = 2 := by unfold ckM at hc1; unfold ckMV; split at hc1 <;> simp_all; omega
  refine gq ?_;refine yH ty25 ?_ ?_;all_goals (first | (rw [hE]; done) | (rw [hE, if_pos rfl]; done) | (rw [hE, if_pos rfl]; rfl) | (rw [hE, if_neg hc1]; rfl) | (rw [hE]; rfl))
 have hE : ckMV m v = 0 := by unfold ckM at hc1; unfold ckMV; split at hc1 <;> simp_all <;> omega
 refine gq ?_;refine yb (zeT m hc1 v (by omega) (by omega)) ?_;refine gq ?_;refine yH ty25 ?_ ?_;all_goals (first | (rw [hE]; done) | (rw [hE, if_pos rfl]; done) | (rw [hE, if_pos rfl]; rfl) | (rw [hE, if_neg hc1]; rfl) | (rw [hE]; rfl))
theorem zaG (s : Sg) : Fn Tryz.prog 127 [sgA s] (.bool (clr s)) := by
 refine Fn.go Tryz.func127 Tryz.ntmps127 (fun g w d => ?_);apply yg;refine zaS ?_;refine ya ?_;apply yI;iterate 3 refine ya ?_
 refine ExF.at 3 ?_;refine yA ?_;iterate 2 refine ExF.gi ?_
 refine ge ?_;all_goals (rfl)
theorem zeV (l : List Sg) (hl : l.length <= 4000000000) (i b : Int) (hb : b = 1 \/ b = -1) (h0 : -2 <= i) (h1 : i <= (l.length : Int) + 2) (h2 : b = -1 -> i <= (l.length : Int) + 1) : Fn Tryz.prog 221 [sgsA l, iv i, iv b] (.bool (frB (zfV l b i))) := by
 refine Fn.go Tryz.func221 Tryz.ntmps221 (fun g w d => ?_);refine gq ?_
 refine yS (ι := Nat × Int) (fun (p : Nat × Int) => [(0, sgsA l), (1, iv p.2), (2, iv b)]) (fun (p : Nat × Int) => []) (fun (p : Nat × Int) => zdc l b (l.length + 2) i = zdc l b p.1 p.2 /\ ((b = 1 /\ (l.length : Int) - p.2 <= (p.1 : Int)) \/ (b = -1 /\ p.2 + 1 <= (p.1 : Int))) /\ -3 <= p.2 /\ p.2 <= (l.length : Int) + 3) (fun (p : Nat × Int) => p.1) (l.length + 2, i) (fun p hk => ?_) (hJ := by
  exact ⟨rfl, by dsimp only; omega, by dsimp only; omega, by dsimp only; omega⟩)
 obtain ⟨n, j⟩ := p;obtain ⟨k1, k2, k3, k4⟩ := hk;dsimp only at *
 apply yl;apply yg;iterate 2 refine ya ?_
 refine ExF.at 2 ?_;refine yA ?_;iterate 4 refine ExF.gi ?_
 refine gf ?_ ?_<;>intro hc1
 ·refine gd ?_ ?_<;>intro hc2
  ·refine gq ?_;refine yb (zaG _) ?_;refine gq ?_;all_goals (unfold zfV; rw [k1, zmI hc1 hc2 (by omega)]; rfl)
  refine gq ?_
  refine yz ((n - 1, j + b)) (hJ := by
   exact ⟨by rw [k1, zno hc1 hc2 (by omega)], by dsimp only; omega, by dsimp only; omega, by dsimp only; omega⟩) (hm := by dsimp only; omega)
 ·refine gq ?_;all_goals (unfold zfV; rw [k1, zmH (by omega)]; rfl)
end
end Go.Rse
