/-
  Walks: the branches collected; a level; one combination; all readings.
-/
import Derived.Test.YtbilklnipfabpaaGreatDoorEJRl0
import Derived.Test.YtbilklnipfabpaaGreatDoorEJItem3
set_option linter.unusedSimpArgs false
set_option linter.unusedVariables false
namespace Go.Rse
open Go Go.Proofs
attribute [local irreducible] Pur yD yE Ex X Fn Imp LeV LeB FnO It yJ FnW FnOW FnP FnD
theorem zkd {α : Type} {l : List α} {j : Nat} {x : α} (h : l[j]? = some x) : l.take j ++ [x] = l.take (j + 1) := by
 rw [List.take_add_one, h]; rfl
attribute [local irreducible] alV alE segE segV brF bqX cgS cgN br1
theorem zC (m : Mn) (k : Int) (z : List Par) (a b c : Nat) (h0 : -9223372036854775808 <= k) (h1 : k <= 9223372036854775807) (ha : a <= 1000000) (hb : b <= 3999999) (hl : z.length <= 100000) (hB : ∀ p ∈ z, PB a b c p) : FnO Tryz.prog 160 [.nils, .fn 161 [.ept (fun _ : Unit => [.sl parE z]) () 0, .ept (fun _ : Unit => mnE m) () 0, .ept (fun _ : Unit => [iv k]) () 0]] [] [] (.own 39) [(39, .row parE (brF m k z) 124 3)] := by
 have hpl := zi2 m k z;refine FnO.intro (ts := [(0, .nils), (1, .fn 161 [.ept (fun _ : Unit => [.sl parE z]) () 0, .ept (fun _ : Unit => mnE m) () 0, .ept (fun _ : Unit => [iv k]) () 0])]) (rv := [.tmp 4]) (n := 13) (cs := []) (by kernel_rfl) Tryz.func160 rfl Tryz.ntmps160 rfl rfl (by simp) rfl rfl rfl rfl (fun g w d vh => ?_);apply yb;refine zb6 ?_;refine yf ?_;iterate 2 apply ye
 refine X.imp (za8 parE 124 3 2 39 125 rfl rfl) ?_;apply yc;refine yf ?_;apply X.block;have ht0 : [] = (brF m k z).take 0 := by simp
 have htl : (brF m k z).take (bqX m k z).length = brF m k z := by rw [zlI, List.take_length]
 refine X.range (sl := [2]) (fun j => ([.ptr 2 0 0 0], [(1000001, .hold vh []), (2, .box [.own 39] 125), (39, .row parE ((brF m k z).take j) 124 3)])) (fun j => True) 900001 900002 rfl rfl (by decide) (fun j zs hj => by obtain ⟨i, _, rfl⟩ := zi3 hj; rfl) (zdc m k z a b c h0 h1 ha hb hl hB) trivial rfl rfl (by decide) (Nat.zero_le _) (by simp) (fun j zs hj => by obtain ⟨i, _, rfl⟩ := zi3 hj; rfl) (fun _ => rfl) rfl rfl (fun l o us => yi) (trivial) (fun j zs hj hJ l ready busy rb vs g w hb hyB => ?_) (fun hJ => ?_)
 ·have hZ1 := zi3 hj;obtain ⟨p, hi, rfl⟩ := hZ1;have hst := zkd hi;have hlt : ((brF m k z).take j).length <= 1000000 := by rw [List.length_take]; omega
  apply yc;refine yG ?_;refine yj ?_;apply Ex.nil;refine ⟨rfl, rfl, ?_⟩;apply X.block;apply yc;iterate 2 refine ya ?_
  refine yS parE [p] ?_;iterate 2 refine yj ?_
  apply Ex.nil;refine ⟨[.ptr 2 0 0 0], [(1000001, .hold vh []), (2, .box [.own 39] 125), (39, .row parE ((brF m k z).take (j + 1)) 124 3)], yi, rfl, trivial⟩
 apply yb;refine yh ?_;refine X.ret ?_;refine zlV.mk (ts := [(4, .own 39)]) (.inr rfl) (yi) (.one (.tmp rfl (LeV.eq rfl)))
theorem zaN (m : Mn) (k : Int) (z : List Par) (a b c : Nat) (h0 : -9223372036854775808 <= k) (h1 : k <= 9223372036854775807) (ha : a <= 1000000) (hb : b <= 3999999) (hl : z.length <= 100000) (hB : ∀ p ∈ z, PB a b c p) : FnO Tryz.prog 113 [.fn 161 [.ept (fun _ : Unit => [.sl parE z]) () 0, .ept (fun _ : Unit => mnE m) () 0, .ept (fun _ : Unit => [iv k]) () 0]] [] [] (.own 39) [(39, .row parE (brF m k z) 124 3)] := by
 refine FnO.intro (ts := [(0, .fn 161 [.ept (fun _ : Unit => [.sl parE z]) () 0, .ept (fun _ : Unit => mnE m) () 0, .ept (fun _ : Unit => [iv k]) () 0])]) (rv := [.tmp 2]) (n := 5) (cs := []) (by kernel_rfl) Tryz.func113 rfl Tryz.ntmps113 rfl rfl (by simp) rfl rfl rfl rfl (fun g w d vs => ?_);apply yb;refine ya ?_;apply yk;refine ya ?_;refine zU [(39, 39)] (zC m k z a b c h0 h1 ha hb hl hB) ?_;refine yf ?_;refine X.ret ?_;refine zlV.mk (ts := [(2, .own 39)]) (.inr rfl) (yi) (.one (.tmp rfl (LeV.eq rfl)))
end Go.Rse
namespace Go.Rse
open Go Go.Proofs
attribute [local irreducible] Pur yD yE Ex X Fn Imp LeV LeB FnO It yJ FnW FnOW FnP FnD
def apJ (m : Mn) (k : Int) (L : List Par) (j : Nat) : List Par := (L.take j).map (ap1 m k) ++ L.drop j
theorem ztK (m : Mn) (k : Int) (L : List Par) : L = apJ m k L 0 := by unfold apJ; simp
theorem zkX (m : Mn) (k : Int) (L : List Par) (j : Nat) : (apJ m k L j).length = L.length := by unfold apJ; rw [List.length_append, List.length_map, List.length_take, List.length_drop]; omega
theorem zrN {m : Mn} {k : Int} {L : List Par} {j : Nat} {p : Par} (h : L[j]? = some p) : (apJ m k L j)[j]? = some p := by
 have hj := (List.getElem?_eq_some_iff.1 h).1;unfold apJ;rw [List.getElem?_append_right (by simp; omega)];have : j - ((L.take j).map (ap1 m k)).length = 0 := by simp; omega
 rw [this, List.getElem?_drop]; simpa using h
theorem zoX {m : Mn} {k : Int} {L : List Par} {j : Nat} {p : Par} (h : L[j]? = some p) : (apJ m k L j).set j (ap1 m k p) = apJ m k L (j + 1) := by
 have hj := List.getElem?_eq_some_iff.1 h;have hj1 := hj.1;unfold apJ;rw [List.set_append_right _ _ (by simp; omega)];have : j - ((L.take j).map (ap1 m k)).length = 0 := by simp; omega
 rw [this, List.drop_eq_getElem_cons hj.1, List.set_cons_zero, List.take_add_one, h];simp
theorem zoY (m : Mn) (k : Int) (L : List Par) : apJ m k L L.length = L.map (ap1 m k) := by unfold apJ; simp
attribute [local irreducible] alV alE segE segV brF bqX cgS cgN br1 apV apE apJ alvE alvV alvR
theorem y8 (l : List Int) (hl : l.length <= 4000000000) : Fn Tryz.prog 68 [yd l] (yd l) := by
 refine Fn.go Tryz.func68 Tryz.ntmps68 (fun g w d => ?_);apply yb;refine yf ?_;apply ye;apply yb;refine ya ?_;refine Ex.eqNil rfl sl22 rfl (fun b hb => ?_);apply Ex.nil;refine ym rfl ?_ ?_<;>intro hc1
 ·have hl0 := hb hc1;subst hl0;subst hc1;apply yb;refine yf ?_;refine X.ret ?_;refine RetQ.imp (yi (ts := [(2, yd [])]) (hs := [])) ?_;refine yo ?_;all_goals (rfl)
 apply yg;apply yb;refine yS intE [] ?_;refine ya ?_;refine yj ?_;refine yf ?_;refine X.ret ?_;refine RetQ.imp (Imp.freeze (k := 5) rfl) ?_;refine yo ?_;all_goals (rfl)
theorem zcX (l : List Ite) (hl : l.length <= 100000) : Fn Tryz.prog 69 [itsA l] (tmsA (l.map (·.Dur))) := by
 have hz0 : [] = (l.take 0).map (fun x => x.Dur) := by simp
 refine Fn.go Tryz.func69 Tryz.ntmps69 (fun g w d => ?_);apply yb;refine ya ?_;apply yk;refine yf ?_;iterate 2 apply ye
 refine X.imp (za tmE 46 2 3 30 rfl rfl) ?_;apply yc;refine yq ?_;apply X.block
 refine zh (ι := Nat) (fun (n : Nat) => [(3, .own 30), (6, itsA l), (7, iv l.length), (8, iv (n : Int))]) (fun (n : Nat) => [(30, .row tmE ((l.take n).map (fun x => x.Dur)) 46 2)]) (fun (n : Nat) => n <= l.length) (fun (n : Nat) => l.length - n) 0 (fun n hk => ?_) (h0 := by
  exact yA)
 apply yb;refine yf ?_;apply ye;refine ym rfl ?_ ?_<;>intro hc1
 ·obtain ⟨x, hx⟩ : ∃ x, l[n]? = some x := ⟨_, lgg (by omega)⟩;have hx2 : l[(n : Int).toNat]? = some x := by simpa using hx
  have hst := zks hx;have hlt : ((l.take n).map (fun x => x.Dur)).length <= 100000 := by rw [List.length_map, List.length_take]; omega
  apply yg;apply ye;apply X.block;apply yb;iterate 2 refine ya ?_
  refine yG ?_;refine yj ?_;apply Ex.nil;apply yc;iterate 3 refine ya ?_
  refine yS tmE [x.Dur] ?_;refine yj ?_;refine yf ?_;apply yc;refine yh ?_;refine yQ (n + 1) (hI := yA)
 ·obtain rfl : n = l.length := by omega
  have hV : (l.take l.length).map (fun x => x.Dur) = l.map (·.Dur) := by rw [List.take_length]
  apply X.exit;apply yb;refine yh ?_;refine X.ret ?_;refine RetQ.imp (Imp.freeze (k := 30) rfl) ?_;refine yo ?_;all_goals (exact congrArg (fun z => tmsA z) hV)
set_option maxHeartbeats 8000000 in
theorem zem (m : Mn) (k : Int) (l : List Par) (a c : Nat) (h0 : -9223372036854775808 <= k) (h1 : k <= 9223372036854775807) (ha : a <= 1000) (hc : c <= 1000000) (hl : l.length <= 4096) (hB : ∀ p ∈ l, PB a 0 c p) : Fn Tryz.prog 67 [mnA m, iv k, zao l] (.tup [zao (alvV m k l), iv (alvE m k l)]) := by
 have hcN := zlE m k (B := a) l (fun p hp => (hB p hp).i);have hcs := zi1 m k l;have hb0 : cgS m k l = brN m k l 0 := rfl;refine Fn.go Tryz.func67 Tryz.ntmps67 (fun g w d => ?_);apply yb;refine yH ?_;iterate 2 refine ya ?_
 apply yk;iterate 3 refine ya ?_
 refine zU [(30, 30)] (zea m k l a 0 c h0 h1 (by omega) (by omega) hB) ?_;refine zb ?_;apply ye;apply yb;refine yh ?_;apply X.block
 refine zh (ι := Nat) (fun (n : Nat) => [(2, .own 30), (1, iv k), (3, .ptr 3 0 0 0), (20, iv (cgN m k l)), (21, iv (n : Int))]) (fun (n : Nat) => [(3, .box (mnE m) 24), (30, .row parE (brN m k l n) 124 3)]) (fun (n : Nat) => BrJ m k l n /\ (brN m k l n).length <= 4096) (fun (n : Nat) => (cgN m k l).toNat - n) 0 (fun n hk => ?_) (hJ := by
  exact ⟨zuP m k l, Nat.le_trans hcs hl⟩) (h0 := by
  exact yA)
 obtain ⟨hJ, hnl⟩ := hk;have hle := hJ.le;have hPn := zog (m := m) (k := k) hB n;apply yb;refine yf ?_;apply ye;refine ym rfl ?_ ?_<;>intro hc1
 ·have hn : n < (cgN m k l).toNat := by omega
  have hbl := zi2 m k (brN m k l n);have hbn : brF m k (brN m k l n) = brN m k l (n + 1) := rfl;apply yg;apply ye;apply X.block;apply ye;refine X.imp (Imp.freeze (k := 30) rfl) ?_;apply yc;iterate 3 refine ya ?_
  refine yp (zeb m k (brN m k l n)) ?_;refine zU [(39, 31)] (zaN m k (brN m k l n) a n c h0 h1 (by omega) (by omega) (by omega) hPn) ?_;refine ya ?_;apply yk;refine yq ?_;refine ym rfl ?_ ?_<;>intro hc2
  ·have hZ1 := hJ.bad hn (by omega);obtain ⟨hE, hV⟩ := hZ1;apply yb;refine yh ?_;refine X.ret ?_;refine RetQ.imp (yi (ts := [(6, zao []), (7, iv 15)]) (hs := [])) ?_;refine yx ?_ ?_;all_goals (first | (rw [hV]; done) | (rw [hE]; done) | exact congrArg (fun z => zao z) hW | exact congrArg (fun z => zao z) hV.symm | exact congrArg (fun z => AV.int .i64 z) hE.symm)
  have hlen : (brF m k (brN m k l n)).length <= 4096 := by omega
  apply yg;refine X.imp (st' := ⟨[(2, .own 31), (1, iv k), (3, .ptr 3 0 0 0), (20, iv (cgN m k l)), (21, iv (n : Int))], [(3, .box (mnE m) 24), (31, .row parE (brN m k l (n + 1)) 124 3)]⟩) yA ?_;refine X.imp (Imp.mv 31 30 rfl rfl) ?_;apply yc;refine yh ?_
  refine yQ (n + 1) (hJ := by
   exact ⟨hJ.s hn hlen, hlen⟩) (hI := yA)
 ·have hZ2 := hJ.fin (by omega);obtain ⟨hE, hV⟩ := hZ2;apply X.exit;apply ye;apply yb;refine yq ?_;apply X.block;have hap0 := ztK m k (brN m k l n)
  refine zh (ι := Nat) (fun (q : Nat) => [(1, iv k), (2, .own 30), (3, .ptr 3 0 0 0), (32, .own 30), (33, iv ((brN m k l n).length : Int)), (34, iv (q : Int))]) (fun (q : Nat) => [(3, .box (mnE m) 24), (30, .row parE (apJ m k (brN m k l n) q) 124 3)]) (fun (q : Nat) => q <= (brN m k l n).length) (fun (q : Nat) => (brN m k l n).length - q) 0 (fun q hk => ?_) (h0 := by
   exact yA)
  apply yb;refine yf ?_;apply ye;refine ym rfl ?_ ?_<;>intro hc3
  ·obtain ⟨p, hp⟩ : ∃ p, (brN m k l n)[q]? = some p := ⟨_, lgg (by omega)⟩;have hPB := hPn p (List.mem_of_getElem? hp);have hpj := zrN (m := m) (k := k) hp;have hpj2 : (apJ m k (brN m k l n) q)[(q : Int).toNat]? = some p := by simpa using hpj
   have hpl := zkX m k (brN m k l n) q;have hps : (apJ m k (brN m k l n) q).set (q : Int).toNat (ap1 m k p) = apJ m k (brN m k l n) (q + 1) := by rw [Int.toNat_natCast]; exact zoX hp
   apply yg;apply ye;apply X.block;apply yb;(iterate 2 refine ya ?_);refine zZ (zdy rfl rfl hpj2 rfl rfl zmd) rfl ?_;refine yG ?_;refine ya ?_;refine yj ?_;apply yk;(iterate 6 refine ya ?_);refine yp (zca m k p.items p.now h0 h1 (by have := hPB.i; omega) (by have := hPB.n; omega)) ?_;refine zb ?_;refine X.drawQ [⟨0, 49, .own 30, []⟩, ⟨1, 50, iv (q : Int), []⟩, ⟨2, 51, itsA (apV m k p.items p.now), []⟩, ⟨3, 52, .ptr 10 0 0 (0 + 2), []⟩, ⟨4, 53, yd p.made, [3]⟩, ⟨6, 55, .ptr 10 0 0 (0 + 1), []⟩, ⟨7, 56, yd p.now, [6]⟩, ⟨10, 59, .ptr 30 3 (q : Int).toNat 0, [9, 8, 7, 6, 5, 4, 3, 2, 1, 0]⟩] [(5, [3, 4]), (8, [3, 6, 4, 7, 5]), (9, [3, 6, 4, 7, 5, 8, 2]), (11, [7, 6, 5, 4, 3, 2, 1, 0, 8, 9, 10])] (fun j => match j with | 0 => ⟨[(1, iv k), (2, .own 30), (3, .ptr 3 0 0 0), (32, .own 30), (33, iv ((brN m k l n).length : Int)), (34, iv (q : Int)), (9, iv (q : Int)), (10, .ptr 10 0 0 0), (11, itsA (apV m k p.items p.now))], [(3, .box (mnE m) 24), (30, .row parE (apJ m k (brN m k l n) q) 124 3), (10, .box (parE p) 124)]⟩ | 1 => ⟨[(1, iv k), (2, .own 30), (3, .ptr 3 0 0 0), (32, .own 30), (33, iv ((brN m k l n).length : Int)), (34, iv (q : Int)), (9, iv (q : Int)), (10, .ptr 10 0 0 0), (11, itsA (apV m k p.items p.now)), (54, .own 54)], [(3, .box (mnE m) 24), (30, .row parE (apJ m k (brN m k l n) q) 124 3), (10, .box (parE p) 124), (54, .row intE p.made 3 1)]⟩ | 2 => ⟨[(1, iv k), (2, .own 30), (3, .ptr 3 0 0 0), (32, .own 30), (33, iv ((brN m k l n).length : Int)), (34, iv (q : Int)), (9, iv (q : Int)), (10, .ptr 10 0 0 0), (11, itsA (apV m k p.items p.now)), (57, yd (p.made ++ p.now))], [(3, .box (mnE m) 24), (30, .row parE (apJ m k (brN m k l n) q) 124 3), (10, .box (parE p) 124)]⟩ | 3 => ⟨[(1, iv k), (2, .own 30), (3, .ptr 3 0 0 0), (32, .own 30), (33, iv ((brN m k l n).length : Int)), (34, iv (q : Int)), (9, iv (q : Int)), (10, .ptr 10 0 0 0), (11, itsA (apV m k p.items p.now)), (58, .agg [itsA (apV m k p.items p.now), yd [], yd (p.made ++ p.now)])], [(3, .box (mnE m) 24), (30, .row parE (apJ m k (brN m k l n) q) 124 3), (10, .box (parE p) 124)]⟩ | _ => ⟨[(1, iv k), (2, .own 30), (3, .ptr 3 0 0 0), (32, .own 30), (33, iv ((brN m k l n).length : Int)), (34, iv (q : Int)), (9, iv (q : Int)), (10, .ptr 10 0 0 0), (11, itsA (apV m k p.items p.now))], [(3, .box (mnE m) 24), (30, .row parE ((apJ m k (brN m k l n) q).set (q : Int).toNat (ap1 m k p)) 124 3), (10, .box (parE p) 124)]⟩) mo (by kernel_rfl) (z6 (yi)) (fun j hj => ?_) (fun j c hc β hβ => ?_) ?_
   ·rcases j with _ | _ | _ | _ | _ | j
    ·exact yM
    ·exact yM
    ·exact yM
    ·exact yM
    ·exact yM
    ·exact absurd (show j + 5 <= 4 from hj) (by omega)
   ·rcases j with _ | _ | _ | _ | j
    ·obtain rfl : (5, [3, 4]) = c := by injection hc
     refine yn rfl (yz (st0 := ⟨[(49, .ifb (β 0) (.own 30)), (50, .ifb (β 1) (iv (q : Int))), (51, .ifb (β 2) (itsA (apV m k p.items p.now))), (52, .ptr 10 0 0 (0 + 2)), (53, yd p.made), (55, .ifb (β 6) (.ptr 10 0 0 (0 + 1))), (56, .ifb (β 7) (yd p.now)), (59, .ifb (β 10) (.ptr 30 3 (q : Int).toNat 0)), (1, iv k), (2, .own 30), (3, .ptr 3 0 0 0), (32, .own 30), (33, iv ((brN m k l n).length : Int)), (34, iv (q : Int)), (9, iv (q : Int)), (10, .ptr 10 0 0 0), (11, itsA (apV m k p.items p.now))], [(3, .box (mnE m) 24), (30, .row parE (apJ m k (brN m k l n) q) 124 3), (10, .box (parE p) 124)]⟩) (yy) ?_);refine yE.imp (zka [(5, 54)] (zz p.made (by have := hPB.d; omega))) (yy)
    ·obtain rfl : (8, [3, 6, 4, 7, 5]) = c := by injection hc
     refine yn rfl (yz (st0 := ⟨[(49, .ifb (β 0) (.own 30)), (50, .ifb (β 1) (iv (q : Int))), (51, .ifb (β 2) (itsA (apV m k p.items p.now))), (52, .ptr 10 0 0 (0 + 2)), (53, yd p.made), (55, .ptr 10 0 0 (0 + 1)), (56, yd p.now), (59, .ifb (β 10) (.ptr 30 3 (q : Int).toNat 0)), (1, iv k), (2, .own 30), (3, .ptr 3 0 0 0), (32, .own 30), (33, iv ((brN m k l n).length : Int)), (34, iv (q : Int)), (9, iv (q : Int)), (10, .ptr 10 0 0 0), (11, itsA (apV m k p.items p.now)), (54, .own 54)], [(3, .box (mnE m) 24), (30, .row parE (apJ m k (brN m k l n) q) 124 3), (10, .box (parE p) 124), (54, .row intE p.made 3 1)]⟩) (yy) ?_);refine yE.imp (yE.imp (zbj (l := p.made) (l2 := p.now) rfl rfl rfl sl22 ti3 (by decide) (by decide) (fun _ => rfl) (fun _ => rfl) (by have := hPB.d; have := hPB.n; omega) rfl) (Imp.freeze (k := 54) rfl)) (yy)
    ·obtain rfl : (9, [3, 6, 4, 7, 5, 8, 2]) = c := by injection hc
     refine yn rfl (yz (st0 := ⟨[(49, .ifb (β 0) (.own 30)), (50, .ifb (β 1) (iv (q : Int))), (51, itsA (apV m k p.items p.now)), (52, .ptr 10 0 0 (0 + 2)), (53, yd p.made), (55, .ptr 10 0 0 (0 + 1)), (56, yd p.now), (59, .ifb (β 10) (.ptr 30 3 (q : Int).toNat 0)), (1, iv k), (2, .own 30), (3, .ptr 3 0 0 0), (32, .own 30), (33, iv ((brN m k l n).length : Int)), (34, iv (q : Int)), (9, iv (q : Int)), (10, .ptr 10 0 0 0), (11, itsA (apV m k p.items p.now)), (57, yd (p.made ++ p.now))], [(3, .box (mnE m) 24), (30, .row parE (apJ m k (brN m k l n) q) 124 3), (10, .box (parE p) 124)]⟩) (yy) ?_);refine yE.imp (yw (Pur.stepA yP) rfl rfl) (zay (by (repeat' (first | exact True.intro | (refine And.intro ⟨_, rfl, ?_⟩ ?_; (first | exact LeV.agg (.cons (LeV.refl _) (.cons (LeV.nils _) (.cons (LeV.refl _) .nil))) | exact LeV.refl _ | exact ze6 (hβ _ (by simp)) | exact zdM _ _ | exact LeB.refl _))))) (by (repeat' (first | exact True.intro | (refine And.intro ⟨_, rfl, ?_⟩ ?_; (first | exact LeV.agg (.cons (LeV.refl _) (.cons (LeV.nils _) (.cons (LeV.refl _) .nil))) | exact LeV.refl _ | exact ze6 (hβ _ (by simp)) | exact zdM _ _ | exact LeB.refl _))))))
    ·obtain rfl : (11, [7, 6, 5, 4, 3, 2, 1, 0, 8, 9, 10]) = c := by injection hc
     refine yn rfl (yz (st0 := ⟨[(49, .own 30), (50, iv (q : Int)), (51, itsA (apV m k p.items p.now)), (52, .ptr 10 0 0 (0 + 2)), (53, yd p.made), (55, .ptr 10 0 0 (0 + 1)), (56, yd p.now), (59, .ptr 30 3 (q : Int).toNat 0), (1, iv k), (2, .own 30), (3, .ptr 3 0 0 0), (32, .own 30), (33, iv ((brN m k l n).length : Int)), (34, iv (q : Int)), (9, iv (q : Int)), (10, .ptr 10 0 0 0), (11, itsA (apV m k p.items p.now)), (58, .agg [itsA (apV m k p.items p.now), yd [], yd (p.made ++ p.now)])], [(3, .box (mnE m) 24), (30, .row parE (apJ m k (brN m k l n) q) 124 3), (10, .box (parE p) 124)]⟩) (yy) ?_);refine yE.imp (zb2 (ap1 m k p) rfl rfl (fun _ => rfl) (by decide) (by rw [zkX]; omega) rfl rfl rfl rfl rfl zmd) (yy)
    ·exact absurd hc (by simp)
   apply yc;refine yh ?_;refine yQ (q + 1) (hI := yA)
  ·obtain rfl : q = (brN m k l n).length := by omega
   have hW : apJ m k (brN m k l n) (brN m k l n).length = alvV m k l := (zoY m k _).trans hV;apply X.exit;apply yb;refine yq ?_;refine X.ret ?_;refine RetQ.imp (Imp.freeze (k := 30) rfl) ?_;refine yx ?_ ?_;all_goals (first | (rw [hV]; done) | (rw [hE]; done) | exact congrArg (fun z => zao z) hW | exact congrArg (fun z => zao z) hV.symm | exact congrArg (fun z => AV.int .i64 z) hE.symm)
end Go.Rse
