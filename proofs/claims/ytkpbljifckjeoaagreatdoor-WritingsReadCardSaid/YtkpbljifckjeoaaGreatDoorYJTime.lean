/-
  Plain.
-/
import Derived.Test.YtkpbljifckjeoaaGreatDoorYTk
set_option linter.unusedSimpArgs false
set_option linter.unusedVariables false
namespace Go.Rse
open Go Go.Proofs
def gI (a b : Int) : Int := (Nat.gcd a.natAbs b.natAbs : Nat)
theorem zjf {a : Int} (h : 0 <= a) : gI a 0 = a := by
 unfold gI; simp; omega
theorem zjg {a b : Int} (ha : 0 <= a) (hb : 0 < b) : gI b (a % b) = gI a b := by
 obtain ⟨m, rfl⟩ := Int.eq_ofNat_of_zero_le ha;obtain ⟨n, rfl⟩ := Int.eq_ofNat_of_zero_le (Int.le_of_lt hb);unfold gI;have : ((m : Int) % (n : Int)).natAbs = m % n := by rw [← Int.natCast_emod]; exact Int.natAbs_natCast _
 rw [this]; simp only [Int.natAbs_natCast];rw [Nat.gcd_comm n (m % n), ← Nat.gcd_rec, Nat.gcd_comm]
theorem zeD {n d : Int} (h : 0 < d) : 0 < gI n d := by
 unfold gI;have : 0 < Nat.gcd n.natAbs d.natAbs := Nat.gcd_pos_of_pos_right _ (by omega);omega
def tmZ : Tm := ⟨0, 0⟩
def ckT (t : Tm) : Int := if t.N < 0 \/ 1099511627776 < t.N \/ t.D < 1 \/ 1048576 < t.D then 2 else if 1 < gI t.N t.D then 3 else 0
theorem zbp {t : Tm} (h : ckT t = 0) : 0 <= t.N /\ t.N <= 1099511627776 /\ 0 <= t.D /\ t.D <= 1048576 /\ 1 <= t.D /\ gI t.N t.D = 1 := by
 unfold ckT at h;split at h
 ·simp at h
 ·split at h
  ·simp at h
  ·have := zeD (n := t.N) (d := t.D) (by omega); omega
def yP : List Tm -> Int
 | [] => 0
 | t :: r => if ckT t = 0 then yP r else ckT t
theorem zch {l : List Tm} {k : Nat} {t : Tm} (h : l[k]? = some t) : yP (l.drop k) = if ckT t = 0 then yP (l.drop (k + 1)) else ckT t := by
 have h1 := List.getElem?_eq_some_iff.1 h;rw [List.drop_eq_getElem_cons h1.1, h1.2]; rfl
theorem zeE {a b : Tm} (h : yP [a, b] = 0) : ckT a = 0 /\ ckT b = 0 := by
 simp only [yP] at h;by_cases ha : ckT a = 0
 ·rw [if_pos ha] at h;by_cases hb : ckT b = 0
  ·exact ⟨ha, hb⟩
  ·rw [if_neg hb] at h; exact absurd h hb
 ·rw [if_neg ha] at h; exact absurd h ha
theorem zii : ∀ {l : List Tm}, yP l = 0 -> ∀ t ∈ l, ckT t = 0
 | [], _, t, ht => by simp at ht
 | s :: r, h, t, ht => by
  simp only [yP] at h;by_cases hs : ckT s = 0
  ·rw [if_pos hs] at h;rcases List.mem_cons.1 ht with rfl | ht
   ·exact hs
   ·exact zii h t ht
  ·rw [if_neg hs] at h; exact absurd h hs
theorem mulB {x y X Y : Int} (h1 : 0 <= x) (h2 : x <= X) (h3 : 0 <= y) (h4 : y <= Y) : 0 <= x * y /\ x * y <= X * Y :=
 ⟨Int.mul_nonneg h1 h3, Int.mul_le_mul h2 h4 h3 (Int.le_trans h1 h2)⟩
theorem mulP {x y : Int} (h1 : 1 <= x) (h2 : 1 <= y) : 1 <= x * y := by
 have := Int.mul_le_mul h1 h2 (by omega) (by omega); simpa using this
def tmkE (n d : Int) : Int := if n < 0 \/ d < 0 then 2 else if d = 0 then 5 else if 1099511627776 < n / gI n d \/ 1048576 < d / gI n d then 4 else 0
def tmkT (n d : Int) : Tm := if tmkE n d = 0 then ⟨n / gI n d, d / gI n d⟩ else tmZ
def addE (a b : Tm) : Int := if yP [a, b] = 0 then tmkE (a.N * b.D + b.N * a.D) (a.D * b.D) else yP [a, b]
def addV (a b : Tm) : Tm := if yP [a, b] = 0 then tmkT (a.N * b.D + b.N * a.D) (a.D * b.D) else tmZ
def subE (a b : Tm) : Int := if yP [a, b] = 0 then tmkE (a.N * b.D - b.N * a.D) (a.D * b.D) else yP [a, b]
def subV (a b : Tm) : Tm := if yP [a, b] = 0 then tmkT (a.N * b.D - b.N * a.D) (a.D * b.D) else tmZ
def bigQ (a b c d : Int) : Prop := (0 < a /\ 1099511627776 / a < c) \/ (0 < d /\ 1048576 / d < b)
instance (a b c d : Int) : Decidable (bigQ a b c d) := inferInstanceAs (Decidable (_ \/ _))
def tmsE (a b c d : Int) : Int := if bigQ (a / gI a d) (b / gI c b) (c / gI c b) (d / gI a d) then 4 else tmkE (a / gI a d * (c / gI c b)) (b / gI c b * (d / gI a d))
def tmsV (a b c d : Int) : Tm := if bigQ (a / gI a d) (b / gI c b) (c / gI c b) (d / gI a d) then tmZ else tmkT (a / gI a d * (c / gI c b)) (b / gI c b * (d / gI a d))
def mulE (a b : Tm) : Int := if yP [a, b] = 0 then tmsE a.N a.D b.N b.D else yP [a, b]
def mulV (a b : Tm) : Tm := if yP [a, b] = 0 then tmsV a.N a.D b.N b.D else tmZ
def cmpV (a b : Tm) : Int := if yP [a, b] = 0 then (if a.N * b.D < b.N * a.D then -1 else if b.N * a.D < a.N * b.D then 1 else 0) else 0
def sumF : Tm -> List Tm -> Tm × Int
 | s, [] => (s, 0)
 | s, t :: r => if addE s t = 0 then sumF (addV s t) r else (tmZ, addE s t)
theorem zij {l : List Tm} {k : Nat} {t s : Tm} (h : l[k]? = some t) : sumF s (l.drop k) = if addE s t = 0 then sumF (addV s t) (l.drop (k + 1)) else (tmZ, addE s t) := by
 have h1 := List.getElem?_eq_some_iff.1 h;rw [List.drop_eq_getElem_cons h1.1, h1.2]; rfl
def sumE (l : List Tm) : Int := if yP l = 0 then (sumF ⟨0, 1⟩ l).2 else yP l
def sumV (l : List Tm) : Tm := if yP l = 0 then (sumF ⟨0, 1⟩ l).1 else tmZ
theorem zik {a c M : Int} (ha : 0 < a) (hM : 0 <= M) (h : ¬ M / a < c) : a * c <= M := by
 have h1 : c <= M / a := by omega
 have h2 := Int.mul_le_mul_of_nonneg_left h1 (Int.le_of_lt ha);exact Int.le_trans h2 (Int.mul_ediv_self_le (by omega))
end Go.Rse
namespace Go.Rse
open Go
def two3 (n : Int) : Prop := n = 2 \/ n = 3
instance (n : Int) : Decidable (two3 n) := inferInstanceAs (Decidable (_ \/ _))
def Mn.p (m : Mn) (v : Int) : Int := if v = 1 then m.Max else if v = 2 then m.Mod else if v = 3 then m.Tem else if v = 4 then m.Pro else 2
def Mn.Ok (m : Mn) : Prop := two3 m.Max /\ two3 m.Mod /\ two3 m.Tem /\ two3 m.Pro
instance (m : Mn) : Decidable m.Ok := inferInstanceAs (Decidable (_ /\ _ /\ _ /\ _))
def ckM (m : Mn) : Int := if m.Ok then 0 else 12
def ckMV (m : Mn) (v : Int) : Int := if m.Ok then (if 1 <= v /\ v <= 8 then 0 else 2) else 12
theorem zlL (m : Mn) (v : Int) (h1 : 1 <= v) (h2 : v <= 4) : (mnE m)[(v - 1).toNat]? = some (iv (m.p v)) := by
 have : v = 1 \/ v = 2 \/ v = 3 \/ v = 4 := by omega
 rcases this with rfl | rfl | rfl | rfl <;> rfl
theorem Mn.ok_iff (m : Mn) : m.Ok ↔ ∀ v : Int, 1 <= v -> v <= 4 -> two3 (m.p v) := by
 constructor
 ·rintro ⟨a, b, c, d⟩ v h1 h2
  have : v = 1 \/ v = 2 \/ v = 3 \/ v = 4 := by omega
  rcases this with rfl | rfl | rfl | rfl <;> assumption
 ·intro h;exact ⟨h 1 (by omega) (by omega), h 2 (by omega) (by omega), h 3 (by omega) (by omega), h 4 (by omega) (by omega)⟩
end Go.Rse
namespace Go.Rse
open Go Go.Proofs
section
attribute [local irreducible] Pur yr yw Ex X Fn Imp LeV LeB
theorem zfe (m : Mn) : Fn Tryz.prog 74 [mnA m] (mnA m) := by
 refine Fn.go Tryz.func74 Tryz.ntmps74 (fun g w d => ?_);refine gq ?_;refine RetQ.ret (.one (.cellA rfl rfl rfl rfl zrL (LeV.eq ?_)));all_goals (rfl)
theorem zil (m : Mn) (v : Int) (h1 : 1 <= v) (h8 : v <= 8) : Fn Tryz.prog 103 [mnA m, iv v] (iv (m.p v)) := by
 refine Fn.go Tryz.func103 Tryz.ntmps103 (fun g w d => ?_);refine gd ?_ ?_<;>intro hc1
 ·refine gq ?_;all_goals (first | rfl | (congr 1; unfold Mn.p; rw [if_neg (by omega), if_neg (by omega), if_neg (by omega), if_neg (by omega)]))
 have hp := zlL m v h1 hc1;refine gq ?_;refine yb (zfe m) ?_;iterate 2 refine ya ?_
 refine zao (zjv zo3 ty3 rfl rfl (by omega) (by omega) hp) rfl ?_;refine gq ?_;all_goals (first | rfl | (congr 1; unfold Mn.p; rw [if_neg (by omega), if_neg (by omega), if_neg (by omega), if_neg (by omega)]))
theorem zat (m : Mn) : Fn Tryz.prog 60 [mnA m] (iv (ckM m)) := by
 refine Fn.go Tryz.func60 Tryz.ntmps60 (fun g w d => ?_);refine gq ?_;refine yb (zfe m) ?_;refine gq ?_
 refine yS (ι := Nat) (fun (k : Nat) => [(6, mnA m), (7, iv k)]) (fun (k : Nat) => []) (fun (k : Nat) => k <= 4 /\ ∀ v : Int, 1 <= v -> v <= k -> two3 (m.p v)) (fun (k : Nat) => 4 - k) 0 (fun k hk => ?_) (hJ := by
  exact ⟨by omega, fun v h1 h2 => by omega⟩)
 obtain ⟨hk1, hk2⟩ := hk;refine gd ?_ ?_<;>intro hc1
 ·have hp := zlL m ((k : Int) + 1) (by omega) (by omega);rw [show ((k : Int) + 1 - 1) = (k : Int) by omega] at hp;apply yp;apply yl;apply X.block;apply yg;refine zao (zjv zo3 ty3 rfl rfl (by omega) (by omega) hp) rfl ?_;refine ya ?_;apply yI;iterate 2 refine ya ?_
  refine ExF.at 2 ?_;refine yA ?_;iterate 2 refine ExF.gi ?_
  refine gf ?_ ?_<;>intro hc2
  ·refine gq ?_;all_goals (congr 1; unfold ckM; rw [if_neg (fun h => by have := (m.ok_iff.1 h) (k + 1) (by omega) (by omega); unfold two3 at this; omega)])
  have hp2 : two3 (m.p ((k : Int) + 1)) := by unfold two3; omega
  refine gq ?_
  refine yz (k + 1) (hJ := by
   exact ⟨by omega, fun v h1 h2 => by
    by_cases e : v = k + 1
    ·rw [e]; exact hp2
    ·exact hk2 v h1 (by omega)⟩)
 ·refine gq ?_;all_goals (congr 1; unfold ckM; rw [if_pos (m.ok_iff.2 fun v h1 h2 => hk2 v h1 (by omega))])
theorem zbY (m : Mn) (v : Int) : Fn Tryz.prog 101 [mnA m, iv v] (iv (ckMV m v)) := by
 refine Fn.go Tryz.func101 Tryz.ntmps101 (fun g w d => ?_);refine gq ?_;refine yb (zat m) ?_;refine yu ?_;apply yl;apply yg;iterate 2 refine ya ?_
 refine ExF.at 2 ?_;refine yA ?_;iterate 6 refine ExF.gi ?_
 refine gf ?_ ?_<;>intro hc1
 ·refine gq ?_;all_goals (by_cases hm : m.Ok <;> simp_all [ckM, ckMV] <;> omega)
 refine gq ?_;all_goals (by_cases hm : m.Ok <;> simp_all [ckM, ckMV] <;> omega)
theorem zcZ (m : Mn) (v : Int) : Fn Tryz.prog 76 [mnA m, iv v] (.tup [iv (if ckMV m v = 0 then m.p v else 0), iv (ckMV m v)]) := by
 refine Fn.go Tryz.func76 Tryz.ntmps76 (fun g w d => ?_);refine gq ?_;refine yb (zbY m v) ?_;refine gd ?_ ?_<;>intro hc1
 ·refine gq ?_;refine yi ?_ ?_;all_goals (first | rfl | (simp_all; done))
 refine gq ?_;refine yb (zil m v (by unfold ckMV at hc1; split at hc1 <;> omega) (by unfold ckMV at hc1; split at hc1 <;> omega)) ?_;refine gq ?_;refine yi ?_ ?_;all_goals (first | rfl | (simp_all; done))
end
section
attribute [local irreducible] Pur yr yw Ex X Fn Imp LeV LeB FnO It yx
def zhd (l : List Int) : List (List AV) := (List.range l.length).map fun (j : Nat) => [iv ((l.length : Int) - 1 - (j : Int)), iv (l.getD (l.length - 1 - j) 0)]
theorem zim {l : List Int} {k : Nat} (h : k < l.length) : (zhd l)[k]? = some [iv ((l.length : Int) - 1 - k), iv (l.getD (l.length - 1 - k) 0)] := by
 simp [zhd, h]
theorem zfF {l : List Int} {j : Nat} {zs : List AV} (h : (zhd l)[j]? = some zs) : j < l.length /\ zs = [iv ((l.length : Int) - 1 - j), iv (l.getD (l.length - 1 - j) 0)] := by
 have hlt : j < l.length := by have := (List.getElem?_eq_some_iff.1 h).1; simpa [zhd] using this
 rw [zim hlt] at h;exact ⟨hlt, by simpa using h.symm⟩
theorem zmW (l : List Int) : (zhd l).length = l.length := by simp [zhd]
theorem zbG (l : List Int) (hl : l.length <= 4000000000) : It Tryz.prog 180 [.ept (fun _ : Unit => [.sl intE l]) () 0] (zhd l) := by
 refine It.intro (ts := fun lY => [(0, .yv lY), (1, .ept (fun _ : Unit => [.sl intE l]) () 0)]) (n := 19) (by kernel_rfl) Tryz.func180 rfl Tryz.ntmps180 rfl (fun _ => rfl) (by simp) (fun g w d ds Y lY hY => ?_);refine gq ?_;refine yS (ι := Nat) (fun (k : Nat) => [(0, .yv lY), (1, .ept (fun _ : Unit => [.sl intE l]) () 0), (3, iv ((l.length : Int) - 1 - k))]) (fun (k : Nat) => [(1000000, .yld k true)]) (fun (k : Nat) => k <= l.length) (fun (k : Nat) => l.length - k) 0 (fun k hk => ?_);refine gd ?_ ?_<;>intro hc1
 ·have hlt : k < l.length := by omega
  have hu : l[((l.length : Int) - 1 - k).toNat]? = some (l.getD (l.length - 1 - k) 0) := by
   rw [show ((l.length : Int) - 1 - k).toNat = l.length - 1 - k by omega, List.getD_eq_getElem?_getD, lgg (by omega)]; rfl
  apply yp;apply yl;apply X.block;apply yg;iterate 6 refine ya ?_
  refine Ex.yield hY rfl rfl rfl (LeL.refl _) rfl rfl (zim hlt) rfl (fun b => ?_);refine gd ?_ ?_<;>intro hc2
  ·refine X.ret ?_;refine ⟨.inr rfl, _, b, rfl, fun hb => by simp_all⟩
  subst hc2;apply yp;apply ym;refine zh ?_;refine ⟨k + 1, ye, ?_, ?_⟩
  ·omega
  ·omega
 ·apply X.exit;refine ⟨.inl rfl, k, true, rfl, fun _ => by rw [zmW]; omega⟩
end
section
attribute [local irreducible] Pur yr yw Ex X Fn Imp LeV LeB FnO It yx
theorem zcf (l : List Int) : Fn Tryz.prog 136 [yf l] (.fn 180 [.ept (fun _ : Unit => [.sl intE l]) () 0]) := by
 refine Fn.go Tryz.func136 Tryz.ntmps136 (fun g w d => ?_);apply yg;refine zbB ?_;refine ya ?_;apply yI;refine zm ?_;refine X.ret ?_;refine RetQ.imp (yR (k := 1) rfl rfl) ?_;refine gq ?_;all_goals (first | rfl | (simp_all; done))
theorem za1 (l : List Int) (hl : l.length <= 4000000000) : FnO Tryz.prog 105 [yf l] [] [] (.own 5) [(5, .row intE l 3 1)] := by
 refine FnO.intro (ts := [(0, yf l)]) (rv := [.tmp 2]) (n := 8) (cs := []) (by kernel_rfl) Tryz.func105 rfl Tryz.ntmps105 rfl rfl (by simp) rfl rfl rfl rfl (fun g w d vs => ?_);apply yg;refine yu ?_;apply yl;apply yg;refine ya ?_;refine Ex.eqNil rfl sl59 rfl (fun b hb => ?_);refine gd ?_ ?_<;>intro hc1
 ·have hl0 := hb hc1;subst hl0;subst hc1;apply yg;refine yu ?_;refine X.ret ?_;refine zmh.imp (yL intE 3 1 2 5 rfl rfl) ?_;refine zmh.mk (ts := [(2, .own 5)]) (.inr rfl) (ye) (.one (.tmp rfl (LeV.eq rfl)))
 refine gq ?_;refine yJ intE [] ?_;refine ya ?_;refine Ex.mo ?_;refine yu ?_;refine X.ret ?_;refine zmh.mk (ts := [(2, .own 5)]) (.inr rfl) (ye) (.one (.tmp rfl (LeV.eq rfl)))
def perfL (m : Mn) : List Int := ([4, 3, 2, 1] : List Int).filter fun v => decide (m.p v = 3)
def zeq (m : Mn) : List (List AV) := (perfL m).map fun v => [iv v]
def pcnt (m : Mn) (j : Nat) : Nat := ((([4, 3, 2, 1] : List Int).take j).filter fun v => decide (m.p v = 3)).length
def mnL (m : Mn) : List Int := [m.Max, m.Mod, m.Tem, m.Pro]
theorem zpP (m : Mn) (j : Nat) (h : j < 4) : (mnL m).getD (4 - 1 - j) 0 = m.p (4 - j) := by
 have : j = 0 \/ j = 1 \/ j = 2 \/ j = 3 := by omega
 rcases this with rfl | rfl | rfl | rfl <;> rfl
theorem zn3 (m : Mn) (j : Nat) (h : j < 4) (hp : m.p (4 - j) = 3) : (zeq m)[pcnt m j]? = some [iv (4 - j)] /\ pcnt m (j + 1) = pcnt m j + 1 := by
 have : j = 0 \/ j = 1 \/ j = 2 \/ j = 3 := by omega
 rcases this with rfl | rfl | rfl | rfl <;> simp at hp <;> simp [zeq, perfL, pcnt, List.filter_cons, hp]
 ·split <;> simp
 ·split <;> split <;> simp
 ·split <;> split <;> split <;> simp
theorem zpQ (m : Mn) (j : Nat) (h : j < 4) (hp : ¬ m.p (4 - j) = 3) : pcnt m (j + 1) = pcnt m j := by
 have : j = 0 \/ j = 1 \/ j = 2 \/ j = 3 := by omega
 rcases this with rfl | rfl | rfl | rfl <;> simp at hp <;> simp [pcnt, List.filter_cons, hp]
theorem zn4 (m : Mn) : pcnt m 4 = (zeq m).length := by simp [zeq, perfL, pcnt]
theorem zcE (m : Mn) : It Tryz.prog 135 [.ept (fun _ : Unit => mnE m) () 0] (zeq m) := by
 refine It.intro (ts := fun lY => [(0, .yv lY), (1, .ept (fun _ : Unit => mnE m) () 0)]) (n := 29) (by kernel_rfl) Tryz.func135 rfl Tryz.ntmps135 rfl (fun _ => rfl) (by simp) (fun g w d ds Y lY hY => ?_);apply yg;refine zbB ?_;apply yI;refine yJ intE [] ?_;refine gq ?_;refine yJ intE [_, _, _, _] ?_;refine Ex.mo ?_;refine Ex.imp (Imp.freeze (k := 5) rfl) ?_;refine zaR [(5, 16)] (za1 (mnL m) (by simp [mnL])) rfl rfl rfl (LeL.refl _) rfl rfl trivial rfl rfl rfl rfl ?_;refine Ex.imp (Imp.freeze (k := 16) rfl) ?_;refine Ex.call rfl rfl rfl (zcf (mnL m)) rfl ?_;refine gq ?_;refine X.range (sl := [2]) (fun j => ([.ptr 2 0 0 0], [(2, .box [.yv lY] 103), (1000000, .yld (pcnt m j) true)])) (fun j => True) 900001 900002 rfl rfl (by decide) (fun j zs hj => by obtain ⟨_, rfl⟩ := zfF hj; rfl) (zbG (mnL m) (by simp [mnL])) trivial rfl rfl (by decide) (Nat.le_refl _) (by simp) (fun j zs hj => by obtain ⟨_, rfl⟩ := zfF hj; rfl) (fun _ => rfl) rfl rfl (fun l o us => ye) (trivial) (fun j zs hj hJ l ready busy rb vs g w hb hyB => ?_) (fun hJ => ?_)
 ·obtain ⟨hj4, rfl⟩ := zfF hj;have hj4 : j < 4 := hj4;have hv : (mnL m).getD ((mnL m).length - 1 - j) 0 = m.p (4 - j) := zpP m j hj4;have hl4 : (mnL m).length = 4 := rfl;apply yg;refine yu ?_;apply ym;refine yu ?_;refine ⟨rfl, rfl, ?_⟩;apply X.block;apply yg;iterate 3 refine ya ?_
  refine zkf (t := 22) true rfl (fun hg2 => ?_) (fun hg2 => ?_)
  ·refine zM ?_;(iterate 2 refine zM ?_);have hp3 : m.p (4 - j) = 3 := by rw [← hv]; simpa using hg2
   obtain ⟨hq1, hq2⟩ := zn3 m j hj4 hp3;refine zbl hY rfl rfl rfl (fun _ => ⟨_, _, rfl, rfl, rfl, .cons (LeV.eq (by congr 1; omega)) .nil, rfl, rfl, hq1, fun b => ?_⟩) (fun h => absurd (h.symm.trans hg2) (by decide));refine zM ?_;refine gd ?_ ?_<;>intro hc1
   ·subst hc1;refine X.ret ?_;refine ⟨[.ptr 2 0 0 0], [(2, .box [.yv lY] 103), (1000000, .yld (pcnt m j) false)], ye, ?_⟩;refine ⟨.inr rfl, _, false, rfl, fun hb => by simp at hb⟩
   subst hc1;apply yp;refine ⟨[.ptr 2 0 0 0], [(2, .box [.yv lY] 103), (1000000, .yld (pcnt m (j + 1)) true)], ye, rfl, trivial⟩
  ·refine zaT ?_;(iterate 4 refine zaT ?_);refine gd ?_ ?_<;>intro hc2
   ·exact absurd hc2 (by decide)
   have hp3 : ¬ m.p (4 - j) = 3 := by rw [← hv]; simpa using hg2
   have hq2 := zpQ m j hj4 hp3;apply yp;refine ⟨[.ptr 2 0 0 0], [(2, .box [.yv lY] 103), (1000000, .yld (pcnt m (j + 1)) true)], ye, rfl, trivial⟩
 refine ⟨.inl rfl, _, true, rfl, fun _ => zn4 m⟩
theorem zdA (m : Mn) : Fn Tryz.prog 102 [mnA m] (.fn 135 [.ept (fun _ : Unit => mnE m) () 0]) := by
 refine Fn.go Tryz.func102 Tryz.ntmps102 (fun g w d => ?_);apply yg;refine zaS ?_;refine ya ?_;apply yI;refine zm ?_;refine X.ret ?_;refine RetQ.imp (yR (k := 1) rfl rfl) ?_;refine gq ?_;all_goals (first | rfl | (simp_all; done))
end
section
attribute [local irreducible] Pur yr yw Ex X Fn Imp LeV LeB FnO It yx
def Mn.ab (m : Mn) (v : Int) : Int := ((perfL m).find? fun k => decide (k < v)).getD 0
theorem zbJ {m : Mn} {j : Nat} {zs : List AV} (h : (zeq m)[j]? = some zs) : ∃ k, (perfL m)[j]? = some k /\ zs = [iv k] := by
 rw [zeq, List.getElem?_map] at h;cases hk : (perfL m)[j]? with
 | none => simp [hk] at h
 | some k => simp [hk] at h; exact ⟨k, rfl, h.symm⟩
theorem zsy {m : Mn} {v : Int} {j : Nat} {k : Int} (h : (perfL m)[j]? = some k) (hJ : ∀ i, i < j -> ∀ k, (perfL m)[i]? = some k -> ¬ k < v) (hk : k < v) : m.ab v = k := by
 unfold Mn.ab;generalize perfL m = l at h hJ
 induction l generalizing j with
 | nil => simp at h
 | cons x r ih =>
  cases j with
  | zero => simp at h; subst h; simp [hk]
  | succ j =>
   have hx := hJ 0 (by omega) x (by simp);simp only [List.find?_cons, decide_eq_true_eq, decide_eq_false hx];exact ih (by simpa using h) (fun i hi k hk => hJ (i + 1) (by omega) k (by simpa using hk))
theorem zpR {m : Mn} {v : Int} (hJ : ∀ i, i < (perfL m).length -> ∀ k, (perfL m)[i]? = some k -> ¬ k < v) : m.ab v = 0 := by
 unfold Mn.ab;rw [List.find?_eq_none.2 (fun x hx => ?_)]
 ·rfl
 ·obtain ⟨i, hi⟩ := List.mem_iff_getElem?.1 hx;have := hJ i (List.getElem?_eq_some_iff.1 hi).1 x hi;simpa using this
theorem zff (m : Mn) (v : Int) : Fn Tryz.prog 75 [mnA m, iv v] (.tup [iv (if ckMV m v = 0 then m.ab v else 0), iv (ckMV m v)]) := by
 refine Fn.go Tryz.func75 Tryz.ntmps75 (fun g w d => ?_);refine gq ?_;refine zbB ?_;refine gq ?_;refine yb (zbY m v) ?_;refine gd ?_ ?_<;>intro hc1
 ·refine gq ?_;refine RetQ.ret (.many (by decide) (.cons (.cellS rfl rfl rfl ty3 (LeV.eq ?_)) (.cons (.cellS rfl rfl rfl ty28 (LeV.eq ?_)) .nil)));all_goals (first | (simp_all; done))
 refine gq ?_;refine yb (zdA m) ?_;refine gq ?_;refine X.range (sl := [3, 4, 5]) (fun j => ([.ptr 3 0 0 0, .ptr 4 0 0 0, .ptr 5 0 0 0], [(3, .box [iv v] 3), (4, .box [iv 0] 3), (5, .box [iv 0] 28)])) (fun j => ∀ i, i < j -> ∀ k, (perfL m)[i]? = some k -> ¬ k < v) 900001 900002 rfl rfl (by decide) (fun j zs hj => by obtain ⟨k, _, rfl⟩ := zbJ hj; rfl) (zcE m) trivial rfl rfl (by decide) (Nat.zero_le _) (by simp) (fun j zs hj => by obtain ⟨k, _, rfl⟩ := zbJ hj; rfl) (fun _ => rfl) rfl rfl (fun l o us => ye) (fun i hi => absurd hi (Nat.not_lt_zero i)) (fun j zs hj hJ l ready busy rb vs g w hb hyB => ?_) (fun hJ => ?_)
 ·obtain ⟨k, hk, rfl⟩ := zbJ hj;apply ym;refine yu ?_;refine ⟨rfl, rfl, ?_⟩;refine gd ?_ ?_<;>intro hc2
  ·apply yg;refine ya ?_;(iterate 2 refine Ex.mo ?_);apply Ex.nil;refine X.ret ?_;refine ⟨[.ptr 3 0 0 0, .ptr 4 0 0 0, .ptr 5 0 0 0], [(3, .box [iv v] 3), (4, .box [iv k] 3), (5, .box [iv 0] 28)], ye, ?_⟩;refine RetQ.ret (.many (by decide) (.cons (.cellS rfl rfl rfl ty3 (LeV.eq ?_)) (.cons (.cellS rfl rfl rfl ty28 (LeV.eq ?_)) .nil)));all_goals (first | (simp only [hc1, if_true]; rw [zsy hk hJ hc2]; done) | (simp_all; done))
  apply yp;refine ⟨[.ptr 3 0 0 0, .ptr 4 0 0 0, .ptr 5 0 0 0], [(3, .box [iv v] 3), (4, .box [iv 0] 3), (5, .box [iv 0] 28)], ye, rfl, fun i hi k2 hk2 => by
 rcases Nat.lt_succ_iff_lt_or_eq.1 hi with h | h
 ·exact hJ i h k2 hk2
 ·subst h; rw [hk] at hk2; injection hk2 with hk2; subst hk2; omega⟩
 refine gq ?_;refine RetQ.ret (.many (by decide) (.cons (.cellS rfl rfl rfl ty3 (LeV.eq ?_)) (.cons (.cellS rfl rfl rfl ty28 (LeV.eq ?_)) .nil)));all_goals (first | (simp only [hc1, if_true]; rw [zpR (by simpa [zeq] using hJ)]; done) | (simp_all; done))
end
end Go.Rse
