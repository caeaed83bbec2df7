/-
  Walks: partial readings: one more zeG, those that have segments, the branches.
-/
import Derived.Test.YtbilklnipfabpaaGreatDoorZJItC0
import Derived.Test.YtbilklnipfabpaaGreatDoorZJItem1
set_option linter.unusedSimpArgs false
set_option linter.unusedVariables false
namespace Go.Rse
open Go Go.Proofs
attribute [local irreducible] Pur yD yE Ex X Fn Imp LeV LeB FnO It yH FnW FnOW
def bqX (m : Mn) (k : Int) (l : List Par) : List (List AV) := (brF m k l).map fun p => [parA p]
theorem zki (m : Mn) (k : Int) (l : List Par) : (bqX m k l).length = (brF m k l).length := by unfold bqX; simp
theorem zhO {m : Mn} {k : Int} {l : List Par} {j : Nat} {zs : List AV} (h : (bqX m k l)[j]? = some zs) : ∃ p, (brF m k l)[j]? = some p /\ zs = [parA p] := by
 rw [bqX, List.getElem?_map] at h;cases hk : (brF m k l)[j]? with
 | none => simp [hk] at h
 | some p => simp [hk] at h; exact ⟨p, rfl, h.symm⟩
theorem zpS {m : Mn} {k : Int} {l : List Par} {n : Nat} {p : Par} (h : l[n]? = some p) : brF m k (l.take (n + 1)) = brF m k (l.take n) ++ br1 m k p := by
 rw [List.take_add_one, h];unfold brF; simp [List.flatMap_append]
theorem zn0 {m : Mn} {k : Int} {l : List Par} (n : Nat) : ∃ r, brF m k l = brF m k (l.take n) ++ r :=
 ⟨brF m k (l.drop n), by conv => lhs; rw [← List.take_append_drop n l]
                         unfold brF; rw [List.flatMap_append]⟩
theorem zqB {m : Mn} {k : Int} {l : List Par} {n j : Nat} {p : Par} {c : Int} (h : l[n]? = some p) (hc : (alV m k p.items p.now)[j]? = some c) : (bqX m k l)[(brF m k (l.take n)).length + j]? = some [parA (parM p c)] := by
 obtain ⟨r, hr⟩ := zn0 (m := m) (k := k) (l := l) (n + 1);rw [zpS h] at hr;have hj := (List.getElem?_eq_some_iff.1 hc).1
 have e : (brF m k l)[(brF m k (l.take n)).length + j]? = some (parM p c) := by
  rw [hr, List.append_assoc, List.getElem?_append_right (by omega), Nat.add_sub_cancel_left, List.getElem?_append_left (by unfold br1; rw [List.length_map]; exact hj)];unfold br1; rw [List.getElem?_map, hc]; rfl
 unfold bqX; rw [List.getElem?_map, e]; rfl
theorem zqC (m : Mn) (k : Int) (p : Par) : (br1 m k p).length = (alV m k p.items p.now).length := by unfold br1; simp
attribute [local irreducible] alV alE segE segV brF bqX cgS cgN br1
theorem zci (p : Par) (c : Int) (hn : p.now.length <= 4000000) : Fn Tryz.prog 163 [parA p, iv c] (parA (parM p c)) := by
 refine Fn.go Tryz.func163 Tryz.ntmps163 (fun g w d => ?_);apply yb;refine yG ?_;refine yJ ?_;apply yk;iterate 2 refine ya ?_
 refine z8 [(5, 33)] (zz p.now (by omega)) ?_;refine ya ?_;refine yV intE [_] ?_;refine yj ?_;refine ya ?_;refine yj ?_;apply Ex.nil;apply ye;refine zm (Imp.freeze (k := 33) rfl) ?_;apply yc;refine ya ?_;refine yj ?_;apply Ex.nil;refine X.ret ?_;refine RetQ.ret (.one (.cellA rfl rfl rfl rfl zll (LeV.eq ?_)));all_goals (first | rfl | (simp_all; done))
set_option maxHeartbeats 4000000 in
theorem zdL (m : Mn) (k : Int) (l : List Par) (a b c : Nat) (h0 : -9223372036854775808 <= k) (h1 : k <= 9223372036854775807) (ha : a <= 1000000) (hl : l.length <= 100000) (hB : ∀ p ∈ l, PB a b c p) : FnO Tryz.prog 112 [mnA m, iv k, zac l] [] [] (.tup [.own 30, iv (cgN m k l)]) [(30, .row parE (cgS m k l) 124 3)] := by
 have hz0 : [] = cgS m k (l.take 0) := by unfold cgS; simp
 have hz1 : cgN m k (l.take 0) = 0 := by unfold cgN; simp
 refine FnO.intro (ts := [(0, mnA m), (1, iv k), (2, zac l)]) (rv := [.tmp 6, .tmp 7]) (n := 39) (cs := []) (by kernel_rfl) Tryz.func112 rfl Tryz.ntmps112 rfl rfl (by simp) rfl rfl rfl rfl (fun g w d vs => ?_);apply yb;refine yG ?_;iterate 2 refine ya ?_
 apply yk;refine ya ?_;apply yk;refine yd ?_;iterate 2 apply ye
 refine zm (zg parE 124 3 8 30 rfl rfl) ?_;apply yc;refine yr ?_;apply X.block
 refine zw (ι := Nat) (fun (n : Nat) => [(1, iv k), (3, .ptr 3 0 0 0), (8, .own 30), (9, iv (cgN m k (l.take n))), (14, zac l), (15, iv l.length), (16, iv (n : Int))]) (fun (n : Nat) => [(1000001, .hold vs []), (3, .box (mnE m) 24), (30, .row parE (cgS m k (l.take n)) 124 3)]) (fun (n : Nat) => n <= l.length) (fun (n : Nat) => l.length - n) 0 (fun n hk => ?_) (h0 := by
  exact yA)
 apply yb;refine yd ?_;apply ye;refine ym rfl ?_ ?_<;>intro hc1
 ·obtain ⟨p, hp⟩ : ∃ p, l[n]? = some p := ⟨_, lgg (by omega)⟩;have hp2 : l[(n : Int).toNat]? = some p := by simpa using hp
  have hPB := hB p (List.mem_of_getElem? hp);have hln : (cgS m k (l.take n)).length <= 100000 := by have := zhY m k (l.take n); rw [List.length_take] at this; omega
  apply yf;apply ye;apply X.block;apply yb;iterate 2 refine ya ?_
  refine yJ ?_;refine yj ?_;apply yk;iterate 4 refine ya ?_
  refine yq (zaX m k p.items h0 h1 (by have := hPB.i; omega)) ?_;iterate 5 refine ya ?_
  apply yk;refine yg ?_;refine ym rfl ?_ ?_<;>intro hc2
  ·have hZ1 := zut (m := m) (k := k) hp hc2;obtain ⟨q1, q2⟩ := hZ1;apply yc;(iterate 2 refine ya ?_);refine yV parE [p] ?_;refine yj ?_;refine zaj ?_;apply yc;refine yg ?_;refine yY (n + 1) (hI := yA)
  ·have hZ2 := zuu (m := m) (k := k) hp hc2;obtain ⟨q1, q2⟩ := hZ2;apply yf;apply yc;refine yg ?_;refine yY (n + 1) (hI := yA)
 ·obtain rfl : n = l.length := by omega
  rw [List.take_length];apply X.exit;apply yb;refine zaj ?_;refine X.ret ?_;refine zk6.mk (ts := [(6, .own 30), (7, iv (cgN m k l))]) (.inr rfl) (yi) (.many (by decide) (.cons (.tmp rfl (LeV.eq rfl)) (.cons (.tmp rfl (LeV.eq rfl)) .nil)))
theorem zdM (m : Mn) (k : Int) (l : List Par) : Fn Tryz.prog 114 [mnA m, iv k, zac l] (.fn 161 [.ept (fun _ : Unit => [.sl parE l]) () 0, .ept (fun _ : Unit => mnE m) () 0, .ept (fun _ : Unit => [iv k]) () 0]) := by
 refine Fn.go Tryz.func114 Tryz.ntmps114 (fun g w d => ?_);apply yb;refine yG ?_;iterate 2 refine zcf ?_
 refine ya ?_;apply yk;refine yg ?_;refine X.ret ?_;refine yo ((y3 (k := 3) rfl rfl).trans ((y3 (k := 4) rfl rfl).trans (y3 (k := 5) rfl rfl))) ?_;refine yn ?_;all_goals (first | rfl | (simp_all; done))
set_option maxHeartbeats 4000000 in
theorem zcK (m : Mn) (k : Int) (l : List Par) (a b c : Nat) (h0 : -9223372036854775808 <= k) (h1 : k <= 9223372036854775807) (ha : a <= 1000000) (hb : b <= 3999999) (hl : l.length <= 100000) (hB : ∀ p ∈ l, PB a b c p) : It Tryz.prog 161 [.ept (fun _ : Unit => [.sl parE l]) () 0, .ept (fun _ : Unit => mnE m) () 0, .ept (fun _ : Unit => [iv k]) () 0] (bqX m k l) := by
 have hz0 : (brF m k (l.take 0)).length = 0 := by unfold brF; simp
 refine It.intro (ts := fun lY => [(0, .yv lY), (1, .ept (fun _ : Unit => [.sl parE l]) () 0), (2, .ept (fun _ : Unit => mnE m) () 0), (3, .ept (fun _ : Unit => [iv k]) () 0)]) (n := 41) (by kernel_rfl) Tryz.func161 rfl Tryz.ntmps161 rfl (fun _ => rfl) (by simp) (fun g w d ds Y lY hY => ?_);apply yb;refine yr ?_;apply X.block;refine zw (ι := Nat) (fun (n : Nat) => [(0, .yv lY), (1, .ept (fun _ : Unit => [.sl parE l]) () 0), (2, .ept (fun _ : Unit => mnE m) () 0), (3, .ept (fun _ : Unit => [iv k]) () 0), (11, zac l), (12, iv l.length), (13, iv (n : Int))]) (fun (n : Nat) => [(1000000, .yld (brF m k (l.take n)).length true)]) (fun (n : Nat) => n <= l.length) (fun (n : Nat) => l.length - n) 0 (fun n hk => ?_);apply yb;refine yd ?_;apply ye;refine ym rfl ?_ ?_<;>intro hc1
 ·obtain ⟨p, hp⟩ : ∃ p, l[n]? = some p := ⟨_, lgg (by omega)⟩;have hp2 : l[(n : Int).toNat]? = some p := by simpa using hp
  have hPB := hB p (List.mem_of_getElem? hp);have hal := zkB m k p.items p.now;apply yf;apply ye;apply X.block;apply yb;iterate 2 refine ya ?_
  refine yJ ?_;refine yj ?_;apply yk;iterate 6 refine ya ?_
  refine yq (zfs m k p.items p.now h0 h1 (by have := hPB.i; omega) (by have := hPB.n; omega)) ?_;iterate 5 refine ya ?_
  apply yk;refine yr ?_;apply X.block;refine zw (ι := Nat) (fun (j : Nat) => [(0, .yv lY), (1, .ept (fun _ : Unit => [.sl parE l]) () 0), (2, .ept (fun _ : Unit => mnE m) () 0), (3, .ept (fun _ : Unit => [iv k]) () 0), (11, zac l), (12, iv l.length), (13, iv (n : Int)), (6, .ptr 6 0 0 0), (27, yh (alV m k p.items p.now)), (28, iv (alV m k p.items p.now).length), (29, iv (j : Int))]) (fun (j : Nat) => [(1000000, .yld ((brF m k (l.take n)).length + j) true), (6, .box (parE p) 124)]) (fun (j : Nat) => j <= (alV m k p.items p.now).length) (fun (j : Nat) => (alV m k p.items p.now).length - j) 0 (fun j hk => ?_);apply yb;refine yd ?_;apply ye;refine ym rfl ?_ ?_<;>intro hc2
  ·obtain ⟨x, hx⟩ : ∃ x, (alV m k p.items p.now)[j]? = some x := ⟨_, lgg (by omega)⟩;have hx2 : (alV m k p.items p.now)[(j : Int).toNat]? = some x := by simpa using hx
   have hyj := zqB (m := m) (k := k) hp hx;apply yf;apply ye;apply X.block;apply yb;(iterate 3 refine ya ?_);apply yk;(iterate 3 refine ya ?_);refine yq (zci p x (by have := hPB.n; omega)) ?_;refine Ex.yield hY rfl rfl rfl (LeL.refl _) rfl rfl hyj rfl (fun b => ?_);refine yd ?_;refine ym rfl ?_ ?_<;>intro hc3
   ·subst hc3;refine X.ret ?_;refine ⟨.inr rfl, _, false, rfl, fun hb => by simp at hb⟩
   subst hc3;apply yf;apply yc;refine yg ?_;refine yY (j + 1)
  ·obtain rfl : j = (alV m k p.items p.now).length := by omega
   have hbs : (brF m k (l.take (n + 1))).length = (brF m k (l.take n)).length + (alV m k p.items p.now).length := by rw [zpS hp, List.length_append, zqC]
   apply X.exit;apply yc;refine yg ?_;refine yY (n + 1)
 ·obtain rfl : n = l.length := by omega
  apply X.exit;refine ⟨.inl rfl, _, true, rfl, fun _ => by rw [zki, List.take_length]⟩
end Go.Rse
namespace Go.Rse
open Go Go.Proofs
attribute [local irreducible] Pur yD yE Ex X Fn Imp LeV LeB FnO It yH FnW FnOW
theorem zjw {α : Type} {l : List α} {j : Nat} {x : α} (h : l[j]? = some x) : l.take j ++ [x] = l.take (j + 1) := by
 rw [List.take_add_one, h]; rfl
attribute [local irreducible] alV alE segE segV brF bqX cgS cgN br1
theorem zB (m : Mn) (k : Int) (z : List Par) (a b c : Nat) (h0 : -9223372036854775808 <= k) (h1 : k <= 9223372036854775807) (ha : a <= 1000000) (hb : b <= 3999999) (hl : z.length <= 100000) (hB : ∀ p ∈ z, PB a b c p) : FnO Tryz.prog 160 [.nils, .fn 161 [.ept (fun _ : Unit => [.sl parE z]) () 0, .ept (fun _ : Unit => mnE m) () 0, .ept (fun _ : Unit => [iv k]) () 0]] [] [] (.own 39) [(39, .row parE (brF m k z) 124 3)] := by
 have hpl := zhZ m k z;refine FnO.intro (ts := [(0, .nils), (1, .fn 161 [.ept (fun _ : Unit => [.sl parE z]) () 0, .ept (fun _ : Unit => mnE m) () 0, .ept (fun _ : Unit => [iv k]) () 0])]) (rv := [.tmp 4]) (n := 13) (cs := []) (by kernel_rfl) Tryz.func160 rfl Tryz.ntmps160 rfl rfl (by simp) rfl rfl rfl rfl (fun g w d vh => ?_);apply yb;refine zcf ?_;refine yd ?_;iterate 2 apply ye
 refine zm (zax parE 124 3 2 39 125 rfl rfl) ?_;apply yc;refine yd ?_;apply X.block;have ht0 : [] = (brF m k z).take 0 := by simp
 have htl : (brF m k z).take (bqX m k z).length = brF m k z := by rw [zki, List.take_length]
 refine X.range (sl := [2]) (fun j => ([.ptr 2 0 0 0], [(1000001, .hold vh []), (2, .box [.own 39] 125), (39, .row parE ((brF m k z).take j) 124 3)])) (fun j => True) 900001 900002 rfl rfl (by decide) (fun j zs hj => by obtain ⟨i, _, rfl⟩ := zhO hj; rfl) (zcK m k z a b c h0 h1 ha hb hl hB) trivial rfl rfl (by decide) (Nat.zero_le _) (by simp) (fun j zs hj => by obtain ⟨i, _, rfl⟩ := zhO hj; rfl) (fun _ => rfl) rfl rfl (fun l o us => yi) (trivial) (fun j zs hj hJ l ready busy rb vs g w hb hyB => ?_) (fun hJ => ?_)
 ·have hZ1 := zhO hj;obtain ⟨p, hi, rfl⟩ := hZ1;have hst := zjw hi;have hlt : ((brF m k z).take j).length <= 1000000 := by rw [List.length_take]; omega
  apply yc;refine yJ ?_;refine yj ?_;apply Ex.nil;refine ⟨rfl, rfl, ?_⟩;apply X.block;apply yc;iterate 2 refine ya ?_
  refine yV parE [p] ?_;iterate 2 refine yj ?_
  apply Ex.nil;refine ⟨[.ptr 2 0 0 0], [(1000001, .hold vh []), (2, .box [.own 39] 125), (39, .row parE ((brF m k z).take (j + 1)) 124 3)], yi, rfl, trivial⟩
 apply yb;refine yg ?_;refine X.ret ?_;refine zk6.mk (ts := [(4, .own 39)]) (.inr rfl) (yi) (.one (.tmp rfl (LeV.eq rfl)))
theorem zaE (m : Mn) (k : Int) (z : List Par) (a b c : Nat) (h0 : -9223372036854775808 <= k) (h1 : k <= 9223372036854775807) (ha : a <= 1000000) (hb : b <= 3999999) (hl : z.length <= 100000) (hB : ∀ p ∈ z, PB a b c p) : FnO Tryz.prog 113 [.fn 161 [.ept (fun _ : Unit => [.sl parE z]) () 0, .ept (fun _ : Unit => mnE m) () 0, .ept (fun _ : Unit => [iv k]) () 0]] [] [] (.own 39) [(39, .row parE (brF m k z) 124 3)] := by
 refine FnO.intro (ts := [(0, .fn 161 [.ept (fun _ : Unit => [.sl parE z]) () 0, .ept (fun _ : Unit => mnE m) () 0, .ept (fun _ : Unit => [iv k]) () 0])]) (rv := [.tmp 2]) (n := 5) (cs := []) (by kernel_rfl) Tryz.func113 rfl Tryz.ntmps113 rfl rfl (by simp) rfl rfl rfl rfl (fun g w d vs => ?_);apply yb;refine ya ?_;apply yk;refine ya ?_;refine z8 [(39, 39)] (zB m k z a b c h0 h1 ha hb hl hB) ?_;refine yd ?_;refine X.ret ?_;refine zk6.mk (ts := [(2, .own 39)]) (.inr rfl) (yi) (.one (.tmp rfl (LeV.eq rfl)))
end Go.Rse
namespace Go.Rse
open Go Go.Proofs
attribute [local irreducible] Pur yD yE Ex X Fn Imp LeV LeB FnO It yH FnW FnOW
def apJ (m : Mn) (k : Int) (L : List Par) (j : Nat) : List Par := (L.take j).map (ap1 m k) ++ L.drop j
theorem zsi (m : Mn) (k : Int) (L : List Par) : L = apJ m k L 0 := by unfold apJ; simp
theorem zkj (m : Mn) (k : Int) (L : List Par) (j : Nat) : (apJ m k L j).length = L.length := by unfold apJ; rw [List.length_append, List.length_map, List.length_take, List.length_drop]; omega
theorem zqD {m : Mn} {k : Int} {L : List Par} {j : Nat} {p : Par} (h : L[j]? = some p) : (apJ m k L j)[j]? = some p := by
 have hj := (List.getElem?_eq_some_iff.1 h).1;unfold apJ;rw [List.getElem?_append_right (by simp; omega)];have : j - ((L.take j).map (ap1 m k)).length = 0 := by simp; omega
 rw [this, List.getElem?_drop]; simpa using h
theorem zn1 {m : Mn} {k : Int} {L : List Par} {j : Nat} {p : Par} (h : L[j]? = some p) : (apJ m k L j).set j (ap1 m k p) = apJ m k L (j + 1) := by
 have hj := List.getElem?_eq_some_iff.1 h;have hj1 := hj.1;unfold apJ;rw [List.set_append_right _ _ (by simp; omega)];have : j - ((L.take j).map (ap1 m k)).length = 0 := by simp; omega
 rw [this, List.drop_eq_getElem_cons hj.1, List.set_cons_zero, List.take_add_one, h];simp
theorem zn2 (m : Mn) (k : Int) (L : List Par) : apJ m k L L.length = L.map (ap1 m k) := by unfold apJ; simp
attribute [local irreducible] alV alE segE segV brF bqX cgS cgN br1 apV apE apJ alvE alvV alvR
theorem y7 (l : List Int) (hl : l.length <= 4000000000) : Fn Tryz.prog 68 [yh l] (yh l) := by
 refine Fn.go Tryz.func68 Tryz.ntmps68 (fun g w d => ?_);apply yb;refine yd ?_;apply ye;apply yb;refine ya ?_;refine Ex.eqNil rfl sl22 rfl (fun b hb => ?_);apply Ex.nil;refine ym rfl ?_ ?_<;>intro hc1
 ·have hl0 := hb hc1;subst hl0;subst hc1;apply yb;refine yd ?_;refine X.ret ?_;refine yo (yi (ts := [(2, yh [])]) (hs := [])) ?_;refine yn ?_;all_goals (rfl)
 apply yf;apply yb;refine yV intE [] ?_;refine ya ?_;refine yj ?_;refine yd ?_;refine X.ret ?_;refine yo (Imp.freeze (k := 5) rfl) ?_;refine yn ?_;all_goals (rfl)
theorem zcL (l : List Ite) (hl : l.length <= 100000) : Fn Tryz.prog 69 [itsA l] (tmsA (l.map (·.Dur))) := by
 have hz0 : [] = (l.take 0).map (fun x => x.Dur) := by simp
 refine Fn.go Tryz.func69 Tryz.ntmps69 (fun g w d => ?_);apply yb;refine ya ?_;apply yk;refine yd ?_;iterate 2 apply ye
 refine zm (zg tmE 46 2 3 30 rfl rfl) ?_;apply yc;refine yr ?_;apply X.block
 refine zw (ι := Nat) (fun (n : Nat) => [(3, .own 30), (6, itsA l), (7, iv l.length), (8, iv (n : Int))]) (fun (n : Nat) => [(30, .row tmE ((l.take n).map (fun x => x.Dur)) 46 2)]) (fun (n : Nat) => n <= l.length) (fun (n : Nat) => l.length - n) 0 (fun n hk => ?_) (h0 := by
  exact yA)
 apply yb;refine yd ?_;apply ye;refine ym rfl ?_ ?_<;>intro hc1
 ·obtain ⟨x, hx⟩ : ∃ x, l[n]? = some x := ⟨_, lgg (by omega)⟩;have hx2 : l[(n : Int).toNat]? = some x := by simpa using hx
  have hst := zrc hx;have hlt : ((l.take n).map (fun x => x.Dur)).length <= 100000 := by rw [List.length_map, List.length_take]; omega
  apply yf;apply ye;apply X.block;apply yb;iterate 2 refine ya ?_
  refine yJ ?_;refine yj ?_;apply Ex.nil;apply yc;iterate 3 refine ya ?_
  refine yV tmE [x.Dur] ?_;refine yj ?_;refine yd ?_;apply yc;refine yg ?_;refine yY (n + 1) (hI := yA)
 ·obtain rfl : n = l.length := by omega
  have hV : (l.take l.length).map (fun x => x.Dur) = l.map (·.Dur) := by rw [List.take_length]
  apply X.exit;apply yb;refine yg ?_;refine X.ret ?_;refine yo (Imp.freeze (k := 30) rfl) ?_;refine yn ?_;all_goals (exact congrArg (fun z => tmsA z) hV)
set_option maxHeartbeats 8000000 in
theorem zdZ (m : Mn) (k : Int) (l : List Par) (a c : Nat) (h0 : -9223372036854775808 <= k) (h1 : k <= 9223372036854775807) (ha : a <= 1000) (hc : c <= 1000000) (hl : l.length <= 4096) (hB : ∀ p ∈ l, PB a 0 c p) : Fn Tryz.prog 67 [mnA m, iv k, zac l] (.tup [zac (alvV m k l), iv (alvE m k l)]) := by
 have hcN := zkA m k (B := a) l (fun p hp => (hB p hp).i);have hcs := zhY m k l;have hb0 : cgS m k l = brN m k l 0 := rfl;refine Fn.go Tryz.func67 Tryz.ntmps67 (fun g w d => ?_);apply yb;refine yG ?_;iterate 2 refine ya ?_
 apply yk;iterate 3 refine ya ?_
 refine z8 [(30, 30)] (zdL m k l a 0 c h0 h1 (by omega) (by omega) hB) ?_;refine zv ?_;apply ye;apply yb;refine yg ?_;apply X.block
 refine zw (ι := Nat) (fun (n : Nat) => [(2, .own 30), (1, iv k), (3, .ptr 3 0 0 0), (20, iv (cgN m k l)), (21, iv (n : Int))]) (fun (n : Nat) => [(3, .box (mnE m) 24), (30, .row parE (brN m k l n) 124 3)]) (fun (n : Nat) => BrJ m k l n /\ (brN m k l n).length <= 4096) (fun (n : Nat) => (cgN m k l).toNat - n) 0 (fun n hk => ?_) (hJ := by
  exact ⟨zsB m k l, Nat.le_trans hcs hl⟩) (h0 := by
  exact yA)
 obtain ⟨hJ, hnl⟩ := hk;have hle := hJ.le;have hPn := zmp (m := m) (k := k) hB n;apply yb;refine yd ?_;apply ye;refine ym rfl ?_ ?_<;>intro hc1
 ·have hn : n < (cgN m k l).toNat := by omega
  have hbl := zhZ m k (brN m k l n);have hbn : brF m k (brN m k l n) = brN m k l (n + 1) := rfl;apply yf;apply ye;apply X.block;apply ye;refine zm (Imp.freeze (k := 30) rfl) ?_;apply yc;iterate 3 refine ya ?_
  refine yq (zdM m k (brN m k l n)) ?_;refine z8 [(39, 31)] (zaE m k (brN m k l n) a n c h0 h1 (by omega) (by omega) (by omega) hPn) ?_;refine ya ?_;apply yk;refine yr ?_;refine ym rfl ?_ ?_<;>intro hc2
  ·have hZ1 := hJ.bad hn (by omega);obtain ⟨hE, hV⟩ := hZ1;apply yb;refine yg ?_;refine X.ret ?_;refine yo (yi (ts := [(6, zac []), (7, iv 15)]) (hs := [])) ?_;refine yy ?_ ?_;all_goals (first | (rw [hV]; done) | (rw [hE]; done) | exact congrArg (fun z => zac z) hW | exact congrArg (fun z => zac z) hV.symm | exact congrArg (fun z => AV.int .i64 z) hE.symm)
  have hlen : (brF m k (brN m k l n)).length <= 4096 := by omega
  apply yf;refine zm (st' := ⟨[(2, .own 31), (1, iv k), (3, .ptr 3 0 0 0), (20, iv (cgN m k l)), (21, iv (n : Int))], [(3, .box (mnE m) 24), (31, .row parE (brN m k l (n + 1)) 124 3)]⟩) yA ?_;refine zm (Imp.mv 31 30 rfl rfl) ?_;apply yc;refine yg ?_
  refine yY (n + 1) (hJ := by
   exact ⟨hJ.s hn hlen, hlen⟩) (hI := yA)
 ·have hZ2 := hJ.fin (by omega);obtain ⟨hE, hV⟩ := hZ2;apply X.exit;apply ye;apply yb;refine yr ?_;apply X.block;have hap0 := zsi m k (brN m k l n)
  refine zw (ι := Nat) (fun (q : Nat) => [(1, iv k), (2, .own 30), (3, .ptr 3 0 0 0), (32, .own 30), (33, iv ((brN m k l n).length : Int)), (34, iv (q : Int))]) (fun (q : Nat) => [(3, .box (mnE m) 24), (30, .row parE (apJ m k (brN m k l n) q) 124 3)]) (fun (q : Nat) => q <= (brN m k l n).length) (fun (q : Nat) => (brN m k l n).length - q) 0 (fun q hk => ?_) (h0 := by
   exact yA)
  apply yb;refine yd ?_;apply ye;refine ym rfl ?_ ?_<;>intro hc3
  ·obtain ⟨p, hp⟩ : ∃ p, (brN m k l n)[q]? = some p := ⟨_, lgg (by omega)⟩;have hPB := hPn p (List.mem_of_getElem? hp);have hpj := zqD (m := m) (k := k) hp;have hpj2 : (apJ m k (brN m k l n) q)[(q : Int).toNat]? = some p := by simpa using hpj
   have hpl := zkj m k (brN m k l n) q;have hps : (apJ m k (brN m k l n) q).set (q : Int).toNat (ap1 m k p) = apJ m k (brN m k l n) (q + 1) := by rw [Int.toNat_natCast]; exact zn1 hp
   apply yf;apply ye;apply X.block;apply yb;(iterate 2 refine ya ?_);refine zaq (zdh rfl rfl hpj2 rfl rfl zll) rfl ?_;refine yJ ?_;refine ya ?_;refine yj ?_;apply yk;(iterate 6 refine ya ?_);refine yq (zg3 m k p.items p.now h0 h1 (by have := hPB.i; omega) (by have := hPB.n; omega)) ?_;refine zv ?_;refine X.drawQ [⟨0, 49, .own 30, []⟩, ⟨1, 50, iv (q : Int), []⟩, ⟨2, 51, itsA (apV m k p.items p.now), []⟩, ⟨3, 52, .ptr 10 0 0 (0 + 2), []⟩, ⟨4, 53, yh p.made, [3]⟩, ⟨6, 55, .ptr 10 0 0 (0 + 1), []⟩, ⟨7, 56, yh p.now, [6]⟩, ⟨10, 59, .ptr 30 3 (q : Int).toNat 0, [9, 8, 7, 6, 5, 4, 3, 2, 1, 0]⟩] [(5, [3, 4]), (8, [3, 6, 4, 7, 5]), (9, [3, 6, 4, 7, 5, 8, 2]), (11, [7, 6, 5, 4, 3, 2, 1, 0, 8, 9, 10])] (fun j => match j with | 0 => ⟨[(1, iv k), (2, .own 30), (3, .ptr 3 0 0 0), (32, .own 30), (33, iv ((brN m k l n).length : Int)), (34, iv (q : Int)), (9, iv (q : Int)), (10, .ptr 10 0 0 0), (11, itsA (apV m k p.items p.now))], [(3, .box (mnE m) 24), (30, .row parE (apJ m k (brN m k l n) q) 124 3), (10, .box (parE p) 124)]⟩ | 1 => ⟨[(1, iv k), (2, .own 30), (3, .ptr 3 0 0 0), (32, .own 30), (33, iv ((brN m k l n).length : Int)), (34, iv (q : Int)), (9, iv (q : Int)), (10, .ptr 10 0 0 0), (11, itsA (apV m k p.items p.now)), (54, .own 54)], [(3, .box (mnE m) 24), (30, .row parE (apJ m k (brN m k l n) q) 124 3), (10, .box (parE p) 124), (54, .row intE p.made 3 1)]⟩ | 2 => ⟨[(1, iv k), (2, .own 30), (3, .ptr 3 0 0 0), (32, .own 30), (33, iv ((brN m k l n).length : Int)), (34, iv (q : Int)), (9, iv (q : Int)), (10, .ptr 10 0 0 0), (11, itsA (apV m k p.items p.now)), (57, yh (p.made ++ p.now))], [(3, .box (mnE m) 24), (30, .row parE (apJ m k (brN m k l n) q) 124 3), (10, .box (parE p) 124)]⟩ | 3 => ⟨[(1, iv k), (2, .own 30), (3, .ptr 3 0 0 0), (32, .own 30), (33, iv ((brN m k l n).length : Int)), (34, iv (q : Int)), (9, iv (q : Int)), (10, .ptr 10 0 0 0), (11, itsA (apV m k p.items p.now)), (58, .agg [itsA (apV m k p.items p.now), yh [], yh (p.made ++ p.now)])], [(3, .box (mnE m) 24), (30, .row parE (apJ m k (brN m k l n) q) 124 3), (10, .box (parE p) 124)]⟩ | _ => ⟨[(1, iv k), (2, .own 30), (3, .ptr 3 0 0 0), (32, .own 30), (33, iv ((brN m k l n).length : Int)), (34, iv (q : Int)), (9, iv (q : Int)), (10, .ptr 10 0 0 0), (11, itsA (apV m k p.items p.now))], [(3, .box (mnE m) 24), (30, .row parE ((apJ m k (brN m k l n) q).set (q : Int).toNat (ap1 m k p)) 124 3), (10, .box (parE p) 124)]⟩) mo (by kernel_rfl) (zbO (yi)) (fun j hj => ?_) (fun j c hc β hβ => ?_) ?_
   ·rcases j with _ | _ | _ | _ | _ | j
    ·exact zM
    ·exact zM
    ·exact zM
    ·exact zM
    ·exact zM
    ·exact absurd (show j + 5 <= 4 from hj) (by omega)
   ·rcases j with _ | _ | _ | _ | j
    ·obtain rfl : (5, [3, 4]) = c := by injection hc
     refine yu rfl (yR (st0 := ⟨[(49, .ifb (β 0) (.own 30)), (50, .ifb (β 1) (iv (q : Int))), (51, .ifb (β 2) (itsA (apV m k p.items p.now))), (52, .ptr 10 0 0 (0 + 2)), (53, yh p.made), (55, .ifb (β 6) (.ptr 10 0 0 (0 + 1))), (56, .ifb (β 7) (yh p.now)), (59, .ifb (β 10) (.ptr 30 3 (q : Int).toNat 0)), (1, iv k), (2, .own 30), (3, .ptr 3 0 0 0), (32, .own 30), (33, iv ((brN m k l n).length : Int)), (34, iv (q : Int)), (9, iv (q : Int)), (10, .ptr 10 0 0 0), (11, itsA (apV m k p.items p.now))], [(3, .box (mnE m) 24), (30, .row parE (apJ m k (brN m k l n) q) 124 3), (10, .box (parE p) 124)]⟩) (yO) ?_);refine yp (zrM [(5, 54)] (zz p.made (by have := hPB.d; omega))) (yO)
    ·obtain rfl : (8, [3, 6, 4, 7, 5]) = c := by injection hc
     refine yu rfl (yR (st0 := ⟨[(49, .ifb (β 0) (.own 30)), (50, .ifb (β 1) (iv (q : Int))), (51, .ifb (β 2) (itsA (apV m k p.items p.now))), (52, .ptr 10 0 0 (0 + 2)), (53, yh p.made), (55, .ptr 10 0 0 (0 + 1)), (56, yh p.now), (59, .ifb (β 10) (.ptr 30 3 (q : Int).toNat 0)), (1, iv k), (2, .own 30), (3, .ptr 3 0 0 0), (32, .own 30), (33, iv ((brN m k l n).length : Int)), (34, iv (q : Int)), (9, iv (q : Int)), (10, .ptr 10 0 0 0), (11, itsA (apV m k p.items p.now)), (54, .own 54)], [(3, .box (mnE m) 24), (30, .row parE (apJ m k (brN m k l n) q) 124 3), (10, .box (parE p) 124), (54, .row intE p.made 3 1)]⟩) (yO) ?_);refine yp (yp (zbI (l := p.made) (l2 := p.now) rfl rfl rfl sl22 ti3 (by decide) (by decide) (fun _ => rfl) (fun _ => rfl) (by have := hPB.d; have := hPB.n; omega) rfl) (Imp.freeze (k := 54) rfl)) (yO)
    ·obtain rfl : (9, [3, 6, 4, 7, 5, 8, 2]) = c := by injection hc
     refine yu rfl (yR (st0 := ⟨[(49, .ifb (β 0) (.own 30)), (50, .ifb (β 1) (iv (q : Int))), (51, itsA (apV m k p.items p.now)), (52, .ptr 10 0 0 (0 + 2)), (53, yh p.made), (55, .ptr 10 0 0 (0 + 1)), (56, yh p.now), (59, .ifb (β 10) (.ptr 30 3 (q : Int).toNat 0)), (1, iv k), (2, .own 30), (3, .ptr 3 0 0 0), (32, .own 30), (33, iv ((brN m k l n).length : Int)), (34, iv (q : Int)), (9, iv (q : Int)), (10, .ptr 10 0 0 0), (11, itsA (apV m k p.items p.now)), (57, yh (p.made ++ p.now))], [(3, .box (mnE m) 24), (30, .row parE (apJ m k (brN m k l n) q) 124 3), (10, .box (parE p) 124)]⟩) (yO) ?_);refine yp (yx (Pur.stepA yX) rfl rfl) (za2 (by (repeat' (first | exact True.intro | (refine And.intro ⟨_, rfl, ?_⟩ ?_; (first | exact LeV.agg (.cons (LeV.refl _) (.cons (LeV.nils _) (.cons (LeV.refl _) .nil))) | exact LeV.refl _ | exact zex (hβ _ (by simp)) | exact zdw _ _ | exact LeB.refl _))))) (by (repeat' (first | exact True.intro | (refine And.intro ⟨_, rfl, ?_⟩ ?_; (first | exact LeV.agg (.cons (LeV.refl _) (.cons (LeV.nils _) (.cons (LeV.refl _) .nil))) | exact LeV.refl _ | exact zex (hβ _ (by simp)) | exact zdw _ _ | exact LeB.refl _))))))
    ·obtain rfl : (11, [7, 6, 5, 4, 3, 2, 1, 0, 8, 9, 10]) = c := by injection hc
     refine yu rfl (yR (st0 := ⟨[(49, .own 30), (50, iv (q : Int)), (51, itsA (apV m k p.items p.now)), (52, .ptr 10 0 0 (0 + 2)), (53, yh p.made), (55, .ptr 10 0 0 (0 + 1)), (56, yh p.now), (59, .ptr 30 3 (q : Int).toNat 0), (1, iv k), (2, .own 30), (3, .ptr 3 0 0 0), (32, .own 30), (33, iv ((brN m k l n).length : Int)), (34, iv (q : Int)), (9, iv (q : Int)), (10, .ptr 10 0 0 0), (11, itsA (apV m k p.items p.now)), (58, .agg [itsA (apV m k p.items p.now), yh [], yh (p.made ++ p.now)])], [(3, .box (mnE m) 24), (30, .row parE (apJ m k (brN m k l n) q) 124 3), (10, .box (parE p) 124)]⟩) (yO) ?_);refine yp (zbM (ap1 m k p) rfl rfl (fun _ => rfl) (by decide) (by rw [zkj]; omega) rfl rfl rfl rfl rfl zll) (yO)
    ·exact absurd hc (by simp)
   apply yc;refine yg ?_;refine yY (q + 1) (hI := yA)
  ·obtain rfl : q = (brN m k l n).length := by omega
   have hW : apJ m k (brN m k l n) (brN m k l n).length = alvV m k l := (zn2 m k _).trans hV;apply X.exit;apply yb;refine yr ?_;refine X.ret ?_;refine yo (Imp.freeze (k := 30) rfl) ?_;refine yy ?_ ?_;all_goals (first | (rw [hV]; done) | (rw [hE]; done) | exact congrArg (fun z => zac z) hW | exact congrArg (fun z => zac z) hV.symm | exact congrArg (fun z => AV.int .i64 z) hE.symm)
end Go.Rse
