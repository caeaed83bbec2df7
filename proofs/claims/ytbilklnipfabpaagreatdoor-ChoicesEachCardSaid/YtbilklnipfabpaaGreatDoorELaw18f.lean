/-
  Walks: the statement that exactly the listed readings are readings.
-/
import Derived.Test.YtbilklnipfabpaaGreatDoorEJLaw18a
import Derived.Test.YtbilklnipfabpaaGreatDoorEJGt1
set_option linter.unusedSimpArgs false
set_option linter.unusedVariables false
namespace Go.Rse
open Go Go.Proofs
attribute [local irreducible] Pur yD yE Ex X Fn Imp LeV LeB FnO It yJ FnW FnOW FnP FnD
attribute [local irreducible] rdE rdV aqV aqE rnL mMk fdQ ltQ isV spN
theorem zqi {y : Int} (hy : -9223372036854775808 <= y /\ y <= 9223372036854775807) : -9223372036854775808 <= y.tdiv 7 /\ y.tdiv 7 <= 9223372036854775807 := by
 have e := Int.tdiv_eq_ediv (a := y) (b := 7);rw [show Int.sign 7 = 1 from rfl] at e;split at e <;> omega
theorem zqj {y : Int} (hy : -9223372036854775808 <= y /\ y <= 9223372036854775807) : -9223372036854775808 <= y.tdiv 3 /\ y.tdiv 3 <= 9223372036854775807 := by
 have e := Int.tdiv_eq_ediv (a := y) (b := 3);rw [show Int.sign 3 = 1 from rfl] at e;split at e <;> omega
theorem zqk {r : Rdg} (h : Rb r) : r.Dots.length <= 1000000 /\ r.Minor.length <= 1000000 /\ r.Choices.length <= 1000000 /\ r.Durs.length <= 1000000 := ⟨Nat.le_trans h.d (by decide), Nat.le_trans h.m (by decide), Nat.le_trans h.c (by decide), Nat.le_trans h.u (by decide)⟩
set_option maxHeartbeats 8000000 in
set_option maxRecDepth 100000 in
theorem C_tactuslaw18_ChoicesEach (n : Int) (nums : List Int) (w0 y : Int) (hn : -9223372036854775808 <= n /\ n <= 9223372036854775807) (hr : ∀ x, x ∈ nums -> -9223372036854775808 <= x /\ x <= 9223372036854775807) (hnl : nums.length <= maxLen) (hw : -9223372036854775808 <= w0 /\ w0 <= 9223372036854775807) (hy : -9223372036854775808 <= y /\ y <= 9223372036854775807) : Fn Tryz.prog 4 [iv n, yd nums, iv w0, iv y] (.bool true) := by
 have hm := zfk n hn;have hM := zsq n;generalize mMk n = m at hm hM;have hRun := zfX m nums 10 (by decide) (by decide) hr hnl;have hlen := zpu m nums (most := 10) (by decide);have hG := zsu m nums 10;generalize rnL m nums 10 = l at hRun hlen hG;have h0 := zuo hM hG;have hD : zcy l := zpw hG;have hErr := zpe h0 hD (by omega);have hB := zrh (m := m) (l := l) (by omega);have hRl := zoe m (l := l) (by omega);have hln := zlH m l;have hf0 := zwj m l;refine Fn.go Tryz.func4 Tryz.ntmps4 (fun g w d => ?_);apply yb;refine ya ?_;apply yk;refine ya ?_;refine yp hm ?_;refine yG ?_;refine yj ?_;apply yk;iterate 2 refine ya ?_
 refine yp hRun ?_;refine ya ?_;apply yk;iterate 2 refine ya ?_
 refine yp (zdT m l (by omega)) ?_;iterate 5 refine ya ?_
 apply yk;iterate 2 refine ya ?_
 refine yp (zjP m l (by omega)) ?_;iterate 3 refine ya ?_
 refine yG ?_;refine yj ?_;refine yf ?_;apply ye;apply yb;refine yh ?_;refine ym rfl ?_ ?_<;>intro hc1
 ·have hno := zpf h0 hErr (by omega);apply yb;iterate 2 refine ya ?_
  refine ExF.at 2 ?_;refine yI ?_;iterate 2 refine ExF.gi ?_
  iterate 2 refine yI ?_
  iterate 2 refine ExF.gi ?_
  iterate 2 refine yI ?_
  refine ExF.cg zbn ?_;refine yF ?_;refine yh ?_;refine X.ret ?_;refine yo ?_;all_goals (first | rfl | (simp; done) | (simp; simpa using hno))
 have ha0 : aqE m l = 0 := by omega
 have hne := (zjk ha0).2.2.2;apply yg;apply yb;refine yq ?_;apply ye;apply yb;refine yf ?_;apply X.block
 refine zh (ι := Nat) (fun (i : Nat) => [(2, iv w0), (3, iv y), (8, .bool false), (9, .ptr 9 0 0 0), (10, sgsA l), (11, zV (aqV m l)), (13, .ptr 13 0 0 0), (14, iv (rdE m l)), (15, .bool (fdQ m l i)), (16, iv (i : Int))]) (fun (i : Nat) => [(9, .box (mnE m) 24), (13, .box (rdgE (rdV m l)) 35)]) (fun (i : Nat) => i <= (aqV m l).length) (fun (i : Nat) => (aqV m l).length - i) 0 (fun i hk => ?_) (h0 := by
  exact yA)
 apply ye;apply yb;iterate 4 refine ya ?_
 refine ExF.at 4 ?_;refine yI ?_;iterate 2 refine ExF.gi ?_
 refine yF ?_;refine yf ?_;refine ym rfl ?_ ?_<;>intro hc2
 ·have hci : i < (aqV m l).length := by omega
  obtain ⟨x, hx⟩ : ∃ x, (aqV m l)[i]? = some x := ⟨_, lgg hci⟩;have hx2 : (aqV m l)[(i : Int).toNat]? = some x := by simpa using hx
  have hZ1 := zqk (hB x (List.mem_of_getElem? hx));obtain ⟨hb1, hb2, hb3, hb4⟩ := hZ1;have hff : fdQ m l i = false := by simpa using hc2.2
  have hfs := zwk hErr hx hff;apply yg;apply ye;apply X.block;refine zu [15,70,71,72,73,74,75,76,77,78,79] [0,1,3,7,7,31,63,7,255,511,1023] mo ?_;iterate 3 refine yl ?_
  iterate 5 refine ChM.gi ?_
  refine ChM.cg (zv x (rdV m l) hb1 hb2 hb3 hb4) ?_;iterate 2 refine yl ?_
  refine y2 ?_;apply Ex.nil;apply yc;refine yq ?_;refine yQ (i + 1) (hI := yA)
 ·have hft : fdQ m l i = true := by
   rcases hc2 with h1 | h1
   ·exact zsi h0 hErr ha0 (by omega)
   ·exact h1
  apply X.exit;apply ye;apply yb;refine yh ?_;refine ym rfl ?_ ?_<;>intro hc3
  ·(rw [hft] at hc3; simp at hc3)
  apply yg;apply ye;apply yb;refine yf ?_;apply X.block
  refine zh (ι := Nat) (fun (q : Nat) => [(2, iv w0), (3, iv y), (8, .bool false), (9, .ptr 9 0 0 0), (10, sgsA l), (11, zV (aqV m l)), (17, iv (q : Int))]) (fun (q : Nat) => [(9, .box (mnE m) 24)]) (fun (q : Nat) => q <= (aqV m l).length) (fun (q : Nat) => (aqV m l).length - q) 0 (fun q hk => ?_) (h0 := by
   exact yA)
  apply ye;apply yb;iterate 4 refine ya ?_
  refine ExF.at 4 ?_;refine yI ?_;iterate 2 refine ExF.gi ?_
  refine yF ?_;refine yf ?_;refine ym rfl ?_ ?_<;>intro hc4
  ·have hci : q < (aqV m l).length := by omega
   obtain ⟨x, hx⟩ : ∃ x, (aqV m l)[q]? = some x := ⟨_, lgg hci⟩;have hx2 : (aqV m l)[(q : Int).toNat]? = some x := by simpa using hx
   have hxm := List.mem_of_getElem? hx;have hZ2 := zqk (hB x hxm);obtain ⟨hb1, hb2, hb3, hb4⟩ := hZ2;have hIx := zcu m l x (by omega) (zjv (by omega) ha0 hxm);rw [zmq hM h0 ha0 hxm, h0] at hIx;have hadj := zsk hM h0 hx;apply yg;apply ye;apply X.block;apply ye;refine zu [18,19,92,93,94,95,96,97,98,99,100,101,102] [0,0,0,0,12,28,60,127,255,511,511,1023,4095] mo ?_;(iterate 6 refine yl ?_);refine zj (zcA x hb1 hb2 hb3 hb4) ?_;refine zj hIx ?_;(iterate 5 refine yl ?_);refine y2 ?_;apply Ex.nil;apply ye;refine zu [103,104,105,106,107,108,109,110,111,112,113,114,115,116,117,118,119,120,121,122,123,124] [0,1,3,7,15,31,63,127,255,511,1023,1023,4095,8191,1023,1023,33791,115711,246783,524287,1048575,2097151] mo ?_;(iterate 3 refine yl ?_);(iterate 2 refine ChM.gi ?_);(iterate 2 refine yl ?_);(iterate 12 refine ChM.gi ?_);refine ChM.cg (zv x ((aqV m l).getD ((q : Int) - 1).toNat default) hb1 hb2 hb3 hb4) ?_;refine ChM.gi ?_;refine yl ?_;refine y2 ?_;apply Ex.nil;refine ym rfl ?_ ?_<;>intro hc5
   ·(simp at hc5; exfalso; refine hadj (by omega) ?_; rw [hc5.2, List.getD_eq_getElem?_getD, show ((q : Int) - 1).toNat = q - 1 by omega])
   apply yg;apply yc;refine yq ?_;refine yQ (q + 1) (hI := yA)
  ·apply X.exit;apply ye;apply yb;refine yq ?_;refine ym rfl ?_ ?_<;>intro hc6
   ·omega
   have hmd0 := Int.emod_nonneg w0 (show ((aqV m l).length : Int) ≠ 0 by omega);have hmd1 := Int.emod_lt_of_pos w0 (show (0 : Int) < ((aqV m l).length : Int) by omega);obtain ⟨r, hr1⟩ : ∃ r, (aqV m l)[(w0 % ((aqV m l).length : Int)).toNat]? = some r := ⟨_, lgg (by have := Int.emod_nonneg w0 (show ((aqV m l).length : Int) ≠ 0 by omega); have := Int.emod_lt_of_pos w0 (show (0 : Int) < ((aqV m l).length : Int) by omega); omega)⟩;have hrm := List.mem_of_getElem? hr1;have hZ3 := zqk (hB r hrm);obtain ⟨hb1, hb2, hb3, hb4⟩ := hZ3;have hcr := zsz ha0 hrm;have hmn := zjv (by omega) ha0 hrm;have hcl := zpg r y;have hdl := zph r y;have hI := zcu m l (chR r y) (by omega) hmn;rw [h0] at hI;have hl0 := zwl (m := m) (l := l) (chR r y);apply yg;apply yb;(iterate 4 refine ya ?_);refine yp (zp w0 ((aqV m l).length : Int) hw (by omega)) ?_;(iterate 2 refine ya ?_);refine zU [(2, 62), (31, 31), (32, 32), (33, 33), (34, 34)] (zb8 r hb1 hb2 hb3 hb4) ?_;refine yG ?_;refine yj ?_;apply Ex.nil;refine zfA ⟨[(3, iv y), (8, .bool false), (9, .ptr 9 0 0 0), (10, sgsA l), (11, zV (aqV m l)), (20, .ptr 20 0 0 0)], [(9, .box (mnE m) 24), (20, .box [.own 31, .own 32, .own 33, .own 34] 35), (31, .row intE r.Dots 3 1), (32, .row intE r.Minor 3 1), (33, .row intE (chC r y) 3 1), (34, .row tmE r.Durs 46 2)]⟩ (fun hJ26 => ?_) ?_
   ·apply yb;refine zM ?_;refine ym rfl ?_ ?_<;>intro hc7
    ·have hcl0 : ¬ r.Choices.length = 0 := by omega
     have hk0 := Int.emod_nonneg y (show (r.Choices.length : Int) ≠ 0 by omega);have hk1 := Int.emod_lt_of_pos y (show (0 : Int) < (r.Choices.length : Int) by omega);obtain ⟨c, hc⟩ : ∃ c, r.Choices[(y % (r.Choices.length : Int)).toNat]? = some c := ⟨_, lgg (by omega)⟩;have hc4 := hcr c (List.mem_of_getElem? hc);have hy7 := zqi hy;have hCE : r.Choices.set (y % (r.Choices.length : Int)).toNat ((c + 1 + y.tdiv 7 % 4) % 5) = chC r y := by unfold chC; rw [if_neg hcl0, List.getD_eq_getElem?_getD, hc]; rfl
     apply yb;(iterate 4 refine ya ?_);refine yp (zp y (r.Choices.length : Int) hy (by omega)) ?_;refine yf ?_;refine zu [145,146,147,148,149,150,151,152,153,154,155,156,157,158] [0,1,0,0,8,0,56,120,248,0,512,1536,4088,8184,16383,32767] mo ?_;(iterate 11 refine yl ?_);refine zj (zp (y.tdiv 7) 4 hy7 (by omega)) ?_;refine yl ?_;refine zj (zp (c + 1 + y.tdiv 7 % 4) 5 (by omega) (by omega)) ?_;refine y2 ?_;refine ya ?_;refine yj ?_;apply Ex.nil;exact X.imp yA hJ26
    ·have hCE : r.Choices = chC r y := by unfold chC; rw [if_pos (by omega)]
     apply yg;exact X.imp yA hJ26
   refine zfA ⟨[(3, iv y), (8, .bool false), (9, .ptr 9 0 0 0), (10, sgsA l), (11, zV (aqV m l)), (20, .ptr 20 0 0 0)], [(9, .box (mnE m) 24), (20, .box [.own 31, .own 32, .own 33, .own 34] 35), (31, .row intE r.Dots 3 1), (32, .row intE r.Minor 3 1), (33, .row intE (chC r y) 3 1), (34, .row tmE (chD r y) 46 2)]⟩ (fun hJ28 => ?_) ?_
   ·apply yb;(iterate 4 refine ya ?_);refine ExF.at 4 ?_;refine yI ?_;(iterate 3 refine ExF.gi ?_);refine yF ?_;refine yf ?_;refine ym rfl ?_ ?_<;>intro hc8
    ·have hdl0 : ¬ r.Durs.length = 0 := by omega
     have hy3 := zqj hy;have hj0 := Int.emod_nonneg (y.tdiv 3) (show (r.Durs.length : Int) ≠ 0 by omega);have hj1 := Int.emod_lt_of_pos (y.tdiv 3) (show (0 : Int) < (r.Durs.length : Int) by omega);have hDE : r.Durs.set (y.tdiv 3 % (r.Durs.length : Int)).toNat (spN y) = chD r y := by unfold chD; rw [if_neg (by rintro (h | h); exact hdl0 h; exact h hc8.2)]
     refine zu [169,170,171,172,173,174,175,176,177,178] [0,1,0,4,0,16,48,124,0,508,1023,2047] mo ?_;(iterate 7 refine yl ?_);refine zj (zp (y.tdiv 3) (r.Durs.length : Int) hy3 (by omega)) ?_;refine yl ?_;refine zj (zfl y hy) ?_;refine y2 ?_;refine ya ?_;refine yj ?_;apply Ex.nil;exact X.imp yA hJ28
    ·have hDE : r.Durs = chD r y := by unfold chD; rw [if_pos (by rcases hc8 with h | h; exact .inl (by omega); exact .inr h)]
     apply yg;exact X.imp yA hJ28
   apply ye;refine X.imp (st' := ⟨[(3, iv y), (8, .bool false), (9, .ptr 9 0 0 0), (10, sgsA l), (11, zV (aqV m l)), (20, .ptr 20 0 0 0)], [(9, .box (mnE m) 24), (20, .box (rdgE (chR r y)) 35)]⟩) (((((Imp.freeze (k := 31) rfl).trans (Imp.freeze (k := 32) rfl)).trans (Imp.freeze (k := 33) rfl)).trans (Imp.freeze (k := 34) rfl)).trans yi) ?_;apply yc;refine yf ?_;apply ye;apply yb;refine yf ?_;apply X.block
   refine zh (ι := Nat) (fun (p : Nat) => [(9, .ptr 9 0 0 0), (10, sgsA l), (11, zV (aqV m l)), (20, .ptr 20 0 0 0), (22, .bool (ltQ m l (chR r y) p)), (23, iv (p : Int))]) (fun (p : Nat) => [(9, .box (mnE m) 24), (20, .box (rdgE (chR r y)) 35)]) (fun (p : Nat) => p <= (aqV m l).length) (fun (p : Nat) => (aqV m l).length - p) 0 (fun p hk => ?_) (h0 := by
    exact yA)
   apply ye;apply yb;refine zM ?_;refine ym rfl ?_ ?_<;>intro hc9
   ·obtain ⟨x, hx⟩ : ∃ x, (aqV m l)[p]? = some x := ⟨_, lgg (by omega)⟩;have hx2 : (aqV m l)[(p : Int).toNat]? = some x := by simpa using hx
    have hZ4 := zqk (hB x (List.mem_of_getElem? hx));obtain ⟨hb1, hb2, hb3, hb4⟩ := hZ4;have hls := zwm (r := chR r y) hx;apply yg;apply ye;apply X.block;refine zu [186,187,188,189,190,191,192,193] [0,1,3,3,15,31,3,127,255,511] mo ?_;(iterate 2 refine yl ?_);(iterate 5 refine ChM.gi ?_);refine ChM.cg (zv x (chR r y) hb1 hb2 hb3 hb4) ?_;refine y2 ?_;refine yh ?_;apply yc;refine yq ?_;refine yQ (p + 1) (hI := yA)
   ·obtain rfl : p = (aqV m l).length := by omega
    have hle := zsj (r := chR r y) hM h0 ha0;apply X.exit;apply yb;(iterate 3 refine ya ?_);refine yp hI ?_;(iterate 5 refine ya ?_);apply yk;(iterate 2 refine ya ?_);refine ExF.at 2 ?_;refine yI ?_;(iterate 3 refine ExF.gi ?_);(iterate 2 refine yI ?_);refine ExF.cg zbn ?_;refine yF ?_;refine yh ?_;refine X.ret ?_;refine yo ?_;all_goals (first | rfl | (simp; done) | (rw [hle]; simp))
end Go.Rse
