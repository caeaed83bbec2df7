/-
  Walks: a level of partial readings.
-/
import Derived.Test.YtbilklnipfabpaaGreatDoorPJRl0
import Derived.Test.YtbilklnipfabpaaGreatDoorPJItem3
set_option linter.unusedSimpArgs false
set_option linter.unusedVariables false
namespace Go.Rse
open Go Go.Proofs
attribute [local irreducible] Pur yx yz Ex X Fn Imp LeV LeB FnO It yC FnW FnOW
def apJ (m : Mn) (k : Int) (L : List Par) (j : Nat) : List Par := (L.take j).map (ap1 m k) ++ L.drop j
theorem zr3 (m : Mn) (k : Int) (L : List Par) : L = apJ m k L 0 := by unfold apJ; simp
theorem zj6 (m : Mn) (k : Int) (L : List Par) (j : Nat) : (apJ m k L j).length = L.length := by unfold apJ; rw [List.length_append, List.length_map, List.length_take, List.length_drop]; omega
theorem zqf {m : Mn} {k : Int} {L : List Par} {j : Nat} {p : Par} (h : L[j]? = some p) : (apJ m k L j)[j]? = some p := by
 have hj := (List.getElem?_eq_some_iff.1 h).1;unfold apJ;rw [List.getElem?_append_right (by simp; omega)];have : j - ((L.take j).map (ap1 m k)).length = 0 := by simp; omega
 rw [this, List.getElem?_drop]; simpa using h
theorem znO {m : Mn} {k : Int} {L : List Par} {j : Nat} {p : Par} (h : L[j]? = some p) : (apJ m k L j).set j (ap1 m k p) = apJ m k L (j + 1) := by
 have hj := List.getElem?_eq_some_iff.1 h;have hj1 := hj.1;unfold apJ;rw [List.set_append_right _ _ (by simp; omega)];have : j - ((L.take j).map (ap1 m k)).length = 0 := by simp; omega
 rw [this, List.drop_eq_getElem_cons hj.1, List.set_cons_zero, List.take_add_one, h];simp
theorem znP (m : Mn) (k : Int) (L : List Par) : apJ m k L L.length = L.map (ap1 m k) := by unfold apJ; simp
attribute [local irreducible] alV alE segE segV brF bqX cgS cgN br1 apV apE apJ alvE alvV alvR
theorem y3 (l : List Int) (hl : l.length <= 4000000000) : Fn Tryz.prog 68 [yg l] (yg l) := by
 refine Fn.go Tryz.func68 Tryz.ntmps68 (fun g w d => ?_);apply yb;refine ye ?_;apply yd;apply yb;refine ya ?_;refine Ex.eqNil rfl sl22 rfl (fun b hb => ?_);apply Ex.nil;refine yk rfl ?_ ?_<;>intro hc1
 ·have hl0 := hb hc1;subst hl0;subst hc1;apply yb;refine ye ?_;refine X.ret ?_;refine RetQ.imp (yi (ts := [(2, yg [])]) (hs := [])) ?_;refine ym ?_;all_goals (rfl)
 apply yf;apply yb;refine y2 intE [] ?_;refine ya ?_;refine Ex.mo ?_;refine ye ?_;refine X.ret ?_;refine RetQ.imp (Imp.freeze (k := 5) rfl) ?_;refine ym ?_;all_goals (rfl)
theorem zcB (l : List Ite) (hl : l.length <= 100000) : Fn Tryz.prog 69 [itsA l] (tmsA (l.map (·.Dur))) := by
 have hz0 : [] = (l.take 0).map (fun x => x.Dur) := by simp
 refine Fn.go Tryz.func69 Tryz.ntmps69 (fun g w d => ?_);apply yb;refine ya ?_;apply yj;refine ye ?_;iterate 2 apply yd
 refine X.imp (y5 tmE 46 2 3 30 rfl rfl) ?_;apply yc;refine yn ?_;apply X.block
 refine zh (ι := Nat) (fun (n : Nat) => [(3, .own 30), (6, itsA l), (7, iv l.length), (8, iv (n : Int))]) (fun (n : Nat) => [(30, .row tmE ((l.take n).map (fun x => x.Dur)) 46 2)]) (fun (n : Nat) => n <= l.length) (fun (n : Nat) => l.length - n) 0 (fun n hk => ?_) (h0 := by
  exact yw)
 apply yb;refine ye ?_;apply yd;refine yk rfl ?_ ?_<;>intro hc1
 ·obtain ⟨x, hx⟩ : ∃ x, l[n]? = some x := ⟨_, lgg (by omega)⟩;have hx2 : l[(n : Int).toNat]? = some x := by simpa using hx
  have hst := zmr hx;have hlt : ((l.take n).map (fun x => x.Dur)).length <= 100000 := by rw [List.length_map, List.length_take]; omega
  apply yf;apply yd;apply X.block;apply yb;iterate 2 refine ya ?_
  refine yH ?_;refine Ex.mo ?_;apply Ex.nil;apply yc;iterate 3 refine ya ?_
  refine y2 tmE [x.Dur] ?_;refine Ex.mo ?_;refine ye ?_;apply yc;refine yh ?_;refine yP (n + 1) (hI := yw)
 ·obtain rfl : n = l.length := by omega
  have hV : (l.take l.length).map (fun x => x.Dur) = l.map (·.Dur) := by rw [List.take_length]
  apply X.exit;apply yb;refine yh ?_;refine X.ret ?_;refine RetQ.imp (Imp.freeze (k := 30) rfl) ?_;refine ym ?_;all_goals (exact congrArg (fun z => tmsA z) hV)
set_option maxHeartbeats 8000000 in
theorem zdX (m : Mn) (k : Int) (l : List Par) (a c : Nat) (h0 : -9223372036854775808 <= k) (h1 : k <= 9223372036854775807) (ha : a <= 1000) (hc : c <= 1000000) (hl : l.length <= 4096) (hB : ∀ p ∈ l, PB a 0 c p) : Fn Tryz.prog 67 [mnA m, iv k, zab l] (.tup [zab (alvV m k l), iv (alvE m k l)]) := by
 have hcN := zkG m k (B := a) l (fun p hp => (hB p hp).i);have hcs := zh6 m k l;have hb0 : cgS m k l = brN m k l 0 := rfl;refine Fn.go Tryz.func67 Tryz.ntmps67 (fun g w d => ?_);apply yb;refine yF ?_;iterate 2 refine ya ?_
 apply yj;iterate 3 refine ya ?_
 refine z6 [(30, 30)] (zdG m k l a 0 c h0 h1 (by omega) (by omega) hB) ?_;refine ze ?_;apply yd;apply yb;refine yh ?_;apply X.block
 refine zh (ι := Nat) (fun (n : Nat) => [(2, .own 30), (1, iv k), (3, .ptr 3 0 0 0), (20, iv (cgN m k l)), (21, iv (n : Int))]) (fun (n : Nat) => [(3, .box (mnE m) 24), (30, .row parE (brN m k l n) 124 3)]) (fun (n : Nat) => BrJ m k l n /\ (brN m k l n).length <= 4096) (fun (n : Nat) => (cgN m k l).toNat - n) 0 (fun n hk => ?_) (hJ := by
  exact ⟨zsW m k l, Nat.le_trans hcs hl⟩) (h0 := by
  exact yw)
 obtain ⟨hJ, hnl⟩ := hk;have hle := hJ.le;have hPn := zm2 (m := m) (k := k) hB n;apply yb;refine ye ?_;apply yd;refine yk rfl ?_ ?_<;>intro hc1
 ·have hn : n < (cgN m k l).toNat := by omega
  have hbl := zh7 m k (brN m k l n);have hbn : brF m k (brN m k l n) = brN m k l (n + 1) := rfl;apply yf;apply yd;apply X.block;apply yd;refine X.imp (Imp.freeze (k := 30) rfl) ?_;apply yc;iterate 3 refine ya ?_
  refine yq (zdH m k (brN m k l n)) ?_;refine z6 [(39, 31)] (zaD m k (brN m k l n) a n c h0 h1 (by omega) (by omega) (by omega) hPn) ?_;refine ya ?_;apply yj;refine yn ?_;refine yk rfl ?_ ?_<;>intro hc2
  ·have hZ1 := hJ.bad hn (by omega);obtain ⟨hE, hV⟩ := hZ1;apply yb;refine yh ?_;refine X.ret ?_;refine RetQ.imp (yi (ts := [(6, zab []), (7, iv 15)]) (hs := [])) ?_;refine yu ?_ ?_;all_goals (first | (rw [hV]; done) | (rw [hE]; done) | exact congrArg (fun z => zab z) hW | exact congrArg (fun z => zab z) hV.symm | exact congrArg (fun z => AV.int .i64 z) hE.symm)
  have hlen : (brF m k (brN m k l n)).length <= 4096 := by omega
  apply yf;refine X.imp (st' := ⟨[(2, .own 31), (1, iv k), (3, .ptr 3 0 0 0), (20, iv (cgN m k l)), (21, iv (n : Int))], [(3, .box (mnE m) 24), (31, .row parE (brN m k l (n + 1)) 124 3)]⟩) yw ?_;refine X.imp (Imp.mv 31 30 rfl rfl) ?_;apply yc;refine yh ?_
  refine yP (n + 1) (hJ := by
   exact ⟨hJ.s hn hlen, hlen⟩) (hI := yw)
 ·have hZ2 := hJ.fin (by omega);obtain ⟨hE, hV⟩ := hZ2;apply X.exit;apply yd;apply yb;refine yn ?_;apply X.block;have hap0 := zr3 m k (brN m k l n)
  refine zh (ι := Nat) (fun (q : Nat) => [(1, iv k), (2, .own 30), (3, .ptr 3 0 0 0), (32, .own 30), (33, iv ((brN m k l n).length : Int)), (34, iv (q : Int))]) (fun (q : Nat) => [(3, .box (mnE m) 24), (30, .row parE (apJ m k (brN m k l n) q) 124 3)]) (fun (q : Nat) => q <= (brN m k l n).length) (fun (q : Nat) => (brN m k l n).length - q) 0 (fun q hk => ?_) (h0 := by
   exact yw)
  apply yb;refine ye ?_;apply yd;refine yk rfl ?_ ?_<;>intro hc3
  ·obtain ⟨p, hp⟩ : ∃ p, (brN m k l n)[q]? = some p := ⟨_, lgg (by omega)⟩;have hPB := hPn p (List.mem_of_getElem? hp);have hpj := zqf (m := m) (k := k) hp;have hpj2 : (apJ m k (brN m k l n) q)[(q : Int).toNat]? = some p := by simpa using hpj
   have hpl := zj6 m k (brN m k l n) q;have hps : (apJ m k (brN m k l n) q).set (q : Int).toNat (ap1 m k p) = apJ m k (brN m k l n) (q + 1) := by rw [Int.toNat_natCast]; exact znO hp
   apply yf;apply yd;apply X.block;apply yb;(iterate 2 refine ya ?_);refine zO (zaL rfl rfl hpj2 rfl rfl zlb) rfl ?_;refine yH ?_;refine ya ?_;refine Ex.mo ?_;apply yj;(iterate 6 refine ya ?_);refine yq (zdv m k p.items p.now h0 h1 (by have := hPB.i; omega) (by have := hPB.n; omega)) ?_;refine ze ?_;refine X.drawQ [⟨0, 49, .own 30, []⟩, ⟨1, 50, iv (q : Int), []⟩, ⟨2, 51, itsA (apV m k p.items p.now), []⟩, ⟨3, 52, .ptr 10 0 0 (0 + 2), []⟩, ⟨4, 53, yg p.made, [3]⟩, ⟨6, 55, .ptr 10 0 0 (0 + 1), []⟩, ⟨7, 56, yg p.now, [6]⟩, ⟨10, 59, .ptr 30 3 (q : Int).toNat 0, [9, 8, 7, 6, 5, 4, 3, 2, 1, 0]⟩] [(5, [3, 4]), (8, [3, 6, 4, 7, 5]), (9, [3, 6, 4, 7, 5, 8, 2]), (11, [7, 6, 5, 4, 3, 2, 1, 0, 8, 9, 10])] (fun j => match j with | 0 => ⟨[(1, iv k), (2, .own 30), (3, .ptr 3 0 0 0), (32, .own 30), (33, iv ((brN m k l n).length : Int)), (34, iv (q : Int)), (9, iv (q : Int)), (10, .ptr 10 0 0 0), (11, itsA (apV m k p.items p.now))], [(3, .box (mnE m) 24), (30, .row parE (apJ m k (brN m k l n) q) 124 3), (10, .box (parE p) 124)]⟩ | 1 => ⟨[(1, iv k), (2, .own 30), (3, .ptr 3 0 0 0), (32, .own 30), (33, iv ((brN m k l n).length : Int)), (34, iv (q : Int)), (9, iv (q : Int)), (10, .ptr 10 0 0 0), (11, itsA (apV m k p.items p.now)), (54, .own 54)], [(3, .box (mnE m) 24), (30, .row parE (apJ m k (brN m k l n) q) 124 3), (10, .box (parE p) 124), (54, .row intE p.made 3 1)]⟩ | 2 => ⟨[(1, iv k), (2, .own 30), (3, .ptr 3 0 0 0), (32, .own 30), (33, iv ((brN m k l n).length : Int)), (34, iv (q : Int)), (9, iv (q : Int)), (10, .ptr 10 0 0 0), (11, itsA (apV m k p.items p.now)), (57, yg (p.made ++ p.now))], [(3, .box (mnE m) 24), (30, .row parE (apJ m k (brN m k l n) q) 124 3), (10, .box (parE p) 124)]⟩ | 3 => ⟨[(1, iv k), (2, .own 30), (3, .ptr 3 0 0 0), (32, .own 30), (33, iv ((brN m k l n).length : Int)), (34, iv (q : Int)), (9, iv (q : Int)), (10, .ptr 10 0 0 0), (11, itsA (apV m k p.items p.now)), (58, .agg [itsA (apV m k p.items p.now), yg [], yg (p.made ++ p.now)])], [(3, .box (mnE m) 24), (30, .row parE (apJ m k (brN m k l n) q) 124 3), (10, .box (parE p) 124)]⟩ | _ => ⟨[(1, iv k), (2, .own 30), (3, .ptr 3 0 0 0), (32, .own 30), (33, iv ((brN m k l n).length : Int)), (34, iv (q : Int)), (9, iv (q : Int)), (10, .ptr 10 0 0 0), (11, itsA (apV m k p.items p.now))], [(3, .box (mnE m) 24), (30, .row parE ((apJ m k (brN m k l n) q).set (q : Int).toNat (ap1 m k p)) 124 3), (10, .box (parE p) 124)]⟩) mo (by kernel_rfl) (zbf (yi)) (fun j hj => ?_) (fun j c hc β hβ => ?_) ?_
   ·rcases j with _ | _ | _ | _ | _ | j
    ·exact zj
    ·exact zj
    ·exact zj
    ·exact zj
    ·exact zj
    ·exact absurd (show j + 5 <= 4 from hj) (by omega)
   ·rcases j with _ | _ | _ | _ | j
    ·obtain rfl : (5, [3, 4]) = c := by injection hc
     refine yo rfl (yK (st0 := ⟨[(49, .ifb (β 0) (.own 30)), (50, .ifb (β 1) (iv (q : Int))), (51, .ifb (β 2) (itsA (apV m k p.items p.now))), (52, .ptr 10 0 0 (0 + 2)), (53, yg p.made), (55, .ifb (β 6) (.ptr 10 0 0 (0 + 1))), (56, .ifb (β 7) (yg p.now)), (59, .ifb (β 10) (.ptr 30 3 (q : Int).toNat 0)), (1, iv k), (2, .own 30), (3, .ptr 3 0 0 0), (32, .own 30), (33, iv ((brN m k l n).length : Int)), (34, iv (q : Int)), (9, iv (q : Int)), (10, .ptr 10 0 0 0), (11, itsA (apV m k p.items p.now))], [(3, .box (mnE m) 24), (30, .row parE (apJ m k (brN m k l n) q) 124 3), (10, .box (parE p) 124)]⟩) (yG) ?_);refine yz.imp (zrw [(5, 54)] (zq p.made (by have := hPB.d; omega))) (yG)
    ·obtain rfl : (8, [3, 6, 4, 7, 5]) = c := by injection hc
     refine yo rfl (yK (st0 := ⟨[(49, .ifb (β 0) (.own 30)), (50, .ifb (β 1) (iv (q : Int))), (51, .ifb (β 2) (itsA (apV m k p.items p.now))), (52, .ptr 10 0 0 (0 + 2)), (53, yg p.made), (55, .ptr 10 0 0 (0 + 1)), (56, yg p.now), (59, .ifb (β 10) (.ptr 30 3 (q : Int).toNat 0)), (1, iv k), (2, .own 30), (3, .ptr 3 0 0 0), (32, .own 30), (33, iv ((brN m k l n).length : Int)), (34, iv (q : Int)), (9, iv (q : Int)), (10, .ptr 10 0 0 0), (11, itsA (apV m k p.items p.now)), (54, .own 54)], [(3, .box (mnE m) 24), (30, .row parE (apJ m k (brN m k l n) q) 124 3), (10, .box (parE p) 124), (54, .row intE p.made 3 1)]⟩) (yG) ?_);refine yz.imp (yz.imp (za4 (l := p.made) (l2 := p.now) rfl rfl rfl sl22 ti3 (by decide) (by decide) (fun _ => rfl) (fun _ => rfl) (by have := hPB.d; have := hPB.n; omega) rfl) (Imp.freeze (k := 54) rfl)) (yG)
    ·obtain rfl : (9, [3, 6, 4, 7, 5, 8, 2]) = c := by injection hc
     refine yo rfl (yK (st0 := ⟨[(49, .ifb (β 0) (.own 30)), (50, .ifb (β 1) (iv (q : Int))), (51, itsA (apV m k p.items p.now)), (52, .ptr 10 0 0 (0 + 2)), (53, yg p.made), (55, .ptr 10 0 0 (0 + 1)), (56, yg p.now), (59, .ifb (β 10) (.ptr 30 3 (q : Int).toNat 0)), (1, iv k), (2, .own 30), (3, .ptr 3 0 0 0), (32, .own 30), (33, iv ((brN m k l n).length : Int)), (34, iv (q : Int)), (9, iv (q : Int)), (10, .ptr 10 0 0 0), (11, itsA (apV m k p.items p.now)), (57, yg (p.made ++ p.now))], [(3, .box (mnE m) 24), (30, .row parE (apJ m k (brN m k l n) q) 124 3), (10, .box (parE p) 124)]⟩) (yG) ?_);refine yz.imp (yr (Pur.stepA yM) rfl rfl) (Imp.of (by (repeat' (first | exact True.intro | (refine And.intro ⟨_, rfl, ?_⟩ ?_; (first | exact LeV.agg (.cons (LeV.refl _) (.cons (LeV.nils _) (.cons (LeV.refl _) .nil))) | exact LeV.refl _ | exact zev (hβ _ (by simp)) | exact zdn _ _ | exact LeB.refl _))))) (by (repeat' (first | exact True.intro | (refine And.intro ⟨_, rfl, ?_⟩ ?_; (first | exact LeV.agg (.cons (LeV.refl _) (.cons (LeV.nils _) (.cons (LeV.refl _) .nil))) | exact LeV.refl _ | exact zev (hβ _ (by simp)) | exact zdn _ _ | exact LeB.refl _))))))
    ·obtain rfl : (11, [7, 6, 5, 4, 3, 2, 1, 0, 8, 9, 10]) = c := by injection hc
     refine yo rfl (yK (st0 := ⟨[(49, .own 30), (50, iv (q : Int)), (51, itsA (apV m k p.items p.now)), (52, .ptr 10 0 0 (0 + 2)), (53, yg p.made), (55, .ptr 10 0 0 (0 + 1)), (56, yg p.now), (59, .ptr 30 3 (q : Int).toNat 0), (1, iv k), (2, .own 30), (3, .ptr 3 0 0 0), (32, .own 30), (33, iv ((brN m k l n).length : Int)), (34, iv (q : Int)), (9, iv (q : Int)), (10, .ptr 10 0 0 0), (11, itsA (apV m k p.items p.now)), (58, .agg [itsA (apV m k p.items p.now), yg [], yg (p.made ++ p.now)])], [(3, .box (mnE m) 24), (30, .row parE (apJ m k (brN m k l n) q) 124 3), (10, .box (parE p) 124)]⟩) (yG) ?_);refine yz.imp (zbL (ap1 m k p) rfl rfl (fun _ => rfl) (by decide) (by rw [zj6]; omega) rfl rfl rfl rfl rfl zlb) (yG)
    ·exact absurd hc (by simp)
   apply yc;refine yh ?_;refine yP (q + 1) (hI := yw)
  ·obtain rfl : q = (brN m k l n).length := by omega
   have hW : apJ m k (brN m k l n) (brN m k l n).length = alvV m k l := (znP m k _).trans hV;apply X.exit;apply yb;refine yn ?_;refine X.ret ?_;refine RetQ.imp (Imp.freeze (k := 30) rfl) ?_;refine yu ?_ ?_;all_goals (first | (rw [hV]; done) | (rw [hE]; done) | exact congrArg (fun z => zab z) hW | exact congrArg (fun z => zab z) hV.symm | exact congrArg (fun z => AV.int .i64 z) hE.symm)
end Go.Rse
namespace Go.Rse
open Go Go.Proofs
attribute [local irreducible] Pur yx yz Ex X Fn Imp LeV LeB FnO It yC FnW FnOW
abbrev zI (l : List Rdg) : AV := .sl rdgE l
theorem znQ (m : Mn) (l : List Sg) (n : Int) : (cmI m l n).length <= l.length := zf5 _ _ _ _
theorem zlG (m : Mn) {l : List Sg} (hl : l.length <= 1000) (n : Int) : ∀ p ∈ [(⟨cmI m l n, [], []⟩ : Par)], PB 1000 0 0 p := by
 intro p hp;simp at hp; subst hp;exact ⟨by have := znQ m l n; show (cmI m l n).length <= 1000; omega, Nat.le_refl _, Nat.le_refl _⟩
theorem zqg {m : Mn} {l : List Sg} {n : Int} (h : cmL m (perfL m) [⟨cmI m l n, [], []⟩] = ([], 15)) : cmE m l n = 15 /\ cmV m l n = [] := by
 have : cmE m l n = 15 := by unfold cmE cmR; rw [h]
 refine ⟨this, ?_⟩; unfold cmV; rw [this]; rfl
theorem zqh {m : Mn} {l : List Sg} {n : Int} {L : List Par} (h : cmL m (perfL m) [⟨cmI m l n, [], []⟩] = (L, 0)) : cmE m l n = 0 /\ L.map (rdOf (iofD m l n) (iofM m l n)) = cmV m l n := by
 have : cmE m l n = 0 := by unfold cmE cmR; rw [h]
 refine ⟨this, ?_⟩; unfold cmV cmR; rw [this, if_pos rfl, h]
theorem znR {d mi : List Int} {L : List Par} {j : Nat} {p : Par} (h : L[j]? = some p) : (L.take j).map (rdOf d mi) ++ [rdOf d mi p] = (L.take (j + 1)).map (rdOf d mi) := by
 rw [List.take_add_one, h]; simp
theorem zlH (m : Mn) {l : List Sg} (hl : l.length <= 1000) (n : Int) : (cmV m l n).length <= 4096 := by
 unfold cmV cmR;split
 ·rename_i h;rw [List.length_map]
  have key : ∀ (L : List Int) (c : Nat) (z : List Par), z.length <= 4096 -> (∀ p ∈ z, PB 1000 0 c p) -> (cmL m L z).1.length <= 4096 := by
   intro L
   induction L with
   | nil => intro c z h1 _; exact h1
   | cons k r ih =>
    intro c z h1 h2;simp only [cmL];split
    ·have := zjM (m := m) (k := k) h1 h2;exact ih _ _ this.1 this.2
    ·simp
  exact key _ 0 _ (by simp) (zlG m hl n)
 ·simp
attribute [local irreducible] alV alE segE segV alvE alvV cmI cmL cmN cmV cmE iofD iofM perfL ictE ictV aqN aqX aqE aqV
set_option maxHeartbeats 8000000 in
theorem zcq (m : Mn) (l : List Sg) (n : Int) (hl : l.length <= 1000) (hM : ckM m = 0) (he : iofE m l n = 0) (hi : itmE m l (iofD m l n) (iofM m l n) = 0) : Fn Tryz.prog 33 [mnA m, sgsA l, iv n] (.tup [zI (cmV m l n), iv (cmE m l n)]) := by
 have hOf := zlo m l n hl;rw [he] at hOf;have hdl : (iofD m l n).length <= 1000 := by rw [zhD he]; have := zkd m l; omega
 have hml : (iofM m l n).length <= 1000 := by rw [zhE he]; have := zhG m l; omega
 have hIt : Fn Tryz.prog 44 [mnA m, sgsA l, yg (iofD m l n), yg (iofM m l n)] (.tup [itsA (cmI m l n), iv 0]) := by
  have h := zd2 m l (iofD m l n) (iofM m l n) hl (by omega);rw [hi] at h; unfold cmI; exact h
 have hL := zbP m;rw [hM, if_pos rfl] at hL;have hp4 := zh2 m;have hz0 : [(⟨cmI m l n, [], []⟩ : Par)] = cmN m (perfL m) [(⟨cmI m l n, [], []⟩ : Par)] 0 := by unfold cmN; rfl
 refine Fn.go Tryz.func33 Tryz.ntmps33 (fun g w d => ?_);apply yb;refine yF ?_;iterate 2 refine ya ?_
 apply yj;iterate 3 refine ya ?_
 refine yq hOf ?_;iterate 6 refine ya ?_
 refine ye ?_;apply yd;apply yb;refine yh ?_;refine yk rfl ?_ ?_<;>intro hc1
 ·exact absurd rfl hc1
 apply yf;apply yb;iterate 4 refine ya ?_
 refine yq hIt ?_;refine ze ?_;apply yd;apply yb;refine yh ?_;refine yk rfl ?_ ?_<;>intro hc2
 ·exact absurd rfl hc2
 apply yf;apply yb;refine ya ?_;refine yq hL ?_;iterate 5 refine ya ?_
 apply yj;iterate 2 refine ya ?_
 refine Ex.imp (st' := ⟨[(3, .ptr 3 0 0 0), (8, yg (iofD m l n)), (9, yg (iofM m l n)), (12, yg (perfL m)), (48, parA ⟨cmI m l n, [], []⟩)], [(3, .box (mnE m) 24)]⟩) (Imp.of ⟨⟨_, rfl, LeV.refl _⟩, ⟨_, rfl, LeV.refl _⟩, ⟨_, rfl, LeV.refl _⟩, ⟨_, rfl, LeV.refl _⟩, ⟨_, rfl, LeV.agg (.cons (LeV.refl _) (.cons (LeV.nils _) (.cons (LeV.nils _) .nil)))⟩, True.intro⟩ ⟨⟨_, rfl, LeB.refl _⟩, True.intro⟩) ?_;refine y2 parE [(⟨cmI m l n, [], []⟩ : Par)] ?_;refine ye ?_;iterate 2 apply yd
 refine X.imp (st' := ⟨[(3, .ptr 3 0 0 0), (8, yg (iofD m l n)), (9, yg (iofM m l n)), (12, yg (perfL m)), (14, zab [(⟨cmI m l n, [], []⟩ : Par)])], [(3, .box (mnE m) 24)]⟩) ((Imp.freeze (k := 49) rfl).trans yi) ?_;apply yc;refine yn ?_;apply X.block
 refine zh (ι := Nat) (fun (k : Nat) => [(3, .ptr 3 0 0 0), (8, yg (iofD m l n)), (9, yg (iofM m l n)), (14, zab (cmN m (perfL m) [(⟨cmI m l n, [], []⟩ : Par)] k)), (50, yg (perfL m)), (51, iv ((perfL m).length : Int)), (52, iv (k : Int))]) (fun (k : Nat) => [(3, .box (mnE m) 24)]) (fun (k : Nat) => CmJ m (perfL m) [(⟨cmI m l n, [], []⟩ : Par)] k) (fun (k : Nat) => (perfL m).length - k) 0 (fun k hk => ?_) (hJ := by
  exact zsX m (perfL m) _) (h0 := by
  exact yw)
 have hJ := hk;have hle := hJ.le;clear hk;have hZ1 := zm6 (m := m) (L := perfL m) (l := [(⟨cmI m l n, [], []⟩ : Par)]) (by simp) (zlG m hl n) k;obtain ⟨hN1, hN2⟩ := hZ1;apply yb;refine ye ?_;apply yd;refine yk rfl ?_ ?_<;>intro hc3
 ·obtain ⟨kk, hk⟩ : ∃ kk, (perfL m)[k]? = some kk := ⟨_, lgg (by omega)⟩;have hk2 : (perfL m)[(k : Int).toNat]? = some kk := by simpa using hk
  have hkb := zmF hk;have hks := zpV (m := m) (l := [(⟨cmI m l n, [], []⟩ : Par)]) hk;apply yf;apply yd;apply X.block;apply yb;iterate 3 refine ya ?_
  apply yj;iterate 3 refine ya ?_
  refine yq (zdX m kk (cmN m (perfL m) [(⟨cmI m l n, [], []⟩ : Par)] k) 1000 (k * (2 * 1000 + 2)) (by omega) (by omega) (by omega) (by omega) hN1 hN2) ?_;iterate 5 refine ya ?_
  apply yj;refine yh ?_;refine yk rfl ?_ ?_<;>intro hc4
  ·have hZ2 := hJ.bad hk hc4;obtain ⟨h15, hcm⟩ := hZ2;have hZ3 := zqg hcm;obtain ⟨hE, hV⟩ := hZ3;apply yb;refine yn ?_;refine X.ret ?_;refine RetQ.imp (yi (ts := [(6, zI []), (7, iv (alvE m kk (cmN m (perfL m) [(⟨cmI m l n, [], []⟩ : Par)] k)))]) (hs := [])) ?_;refine yu ?_ ?_;all_goals (first | (rw [hV]; done) | (rw [hE, h15]; done) | exact congrArg (fun z => zI z) hW | exact congrArg (fun z => AV.int .i64 z) hE.symm)
  have h0 : alvE m kk (cmN m (perfL m) [(⟨cmI m l n, [], []⟩ : Par)] k) = 0 := by omega
  apply yf;apply yc;refine yh ?_
  refine yP (k + 1) (hJ := by
   exact hJ.s hk h0) (hI := yw)
 ·obtain rfl : k = (perfL m).length := by omega
  have hZ4 := zqh (hJ.fin rfl);obtain ⟨hE, hV⟩ := hZ4;apply X.exit;apply yb;refine ye ?_;iterate 2 apply yd
  refine X.imp (y5 rdgE 35 4 17 40 rfl rfl) ?_;apply yc;refine yn ?_;apply X.block;have hr0 : [] = ((cmN m (perfL m) [(⟨cmI m l n, [], []⟩ : Par)] (perfL m).length).take 0).map (rdOf (iofD m l n) (iofM m l n)) := by simp
  refine zh (ι := Nat) (fun (q : Nat) => [(8, yg (iofD m l n)), (9, yg (iofM m l n)), (17, .own 40), (67, zab (cmN m (perfL m) [(⟨cmI m l n, [], []⟩ : Par)] (perfL m).length)), (68, iv ((cmN m (perfL m) [(⟨cmI m l n, [], []⟩ : Par)] (perfL m).length).length : Int)), (69, iv (q : Int))]) (fun (q : Nat) => [(40, .row rdgE (((cmN m (perfL m) [(⟨cmI m l n, [], []⟩ : Par)] (perfL m).length).take q).map (rdOf (iofD m l n) (iofM m l n))) 35 4)]) (fun (q : Nat) => q <= (cmN m (perfL m) [(⟨cmI m l n, [], []⟩ : Par)] (perfL m).length).length) (fun (q : Nat) => (cmN m (perfL m) [(⟨cmI m l n, [], []⟩ : Par)] (perfL m).length).length - q) 0 (fun q hk => ?_) (h0 := by
   exact yw)
  apply yb;refine ye ?_;apply yd;refine yk rfl ?_ ?_<;>intro hc5
  ·obtain ⟨p, hp⟩ : ∃ p, (cmN m (perfL m) [(⟨cmI m l n, [], []⟩ : Par)] (perfL m).length)[q]? = some p := ⟨_, lgg (by omega)⟩;have hp2 : (cmN m (perfL m) [(⟨cmI m l n, [], []⟩ : Par)] (perfL m).length)[(q : Int).toNat]? = some p := by simpa using hp
   have hPB := hN2 p (List.mem_of_getElem? hp);have hst := znR (d := (iofD m l n)) (mi := (iofM m l n)) hp;have hrl : (((cmN m (perfL m) [(⟨cmI m l n, [], []⟩ : Par)] (perfL m).length).take q).map (rdOf (iofD m l n) (iofM m l n))).length <= 5000 := by rw [List.length_map, List.length_take]; omega
   apply yf;apply yd;apply X.block;apply yb;(iterate 2 refine ya ?_);refine yH ?_;refine Ex.mo ?_;apply Ex.nil;refine X.drawQ [⟨1, 74, yg (iofD m l n), []⟩, ⟨2, 75, yg (iofD m l n), [1]⟩, ⟨3, 76, yg (iofM m l n), []⟩, ⟨4, 77, yg (iofM m l n), [1, 2, 3]⟩, ⟨5, 78, .ptr 19 0 0 (0 + 2), []⟩, ⟨6, 79, yg p.made, [5]⟩, ⟨7, 80, yg p.made, [1, 2, 3, 5, 4, 6]⟩, ⟨8, 81, .ptr 19 0 0 (0 + 0), []⟩, ⟨9, 82, itsA p.items, [8]⟩, ⟨10, 83, tmsA (p.items.map (·.Dur)), [1, 2, 3, 5, 4, 6, 8, 7, 9]⟩, ⟨11, 84, rdgA (rdOf (iofD m l n) (iofM m l n) p), [8, 5, 9, 6, 3, 1, 10, 7, 4, 2]⟩, ⟨12, 85, zI [(rdOf (iofD m l n) (iofM m l n) p)], [8, 5, 9, 6, 3, 1, 10, 7, 4, 2, 11]⟩] [(0, []), (13, [5, 3, 1, 6, 8, 4, 2, 7, 9, 11, 10, 12, 0]), (14, [12, 11, 10, 9, 8, 7, 6, 5, 4, 3, 2, 1, 0, 13])] (fun j => match j with | 0 => ⟨[(8, yg (iofD m l n)), (9, yg (iofM m l n)), (17, .own 40), (67, zab (cmN m (perfL m) [(⟨cmI m l n, [], []⟩ : Par)] (perfL m).length)), (68, iv ((cmN m (perfL m) [(⟨cmI m l n, [], []⟩ : Par)] (perfL m).length).length : Int)), (69, iv (q : Int)), (19, .ptr 19 0 0 0)], [(40, .row rdgE ((((cmN m (perfL m) [(⟨cmI m l n, [], []⟩ : Par)] (perfL m).length).take q).map (rdOf (iofD m l n) (iofM m l n)))) 35 4), (19, .box (parE p) 124)]⟩ | 1 => ⟨[(8, yg (iofD m l n)), (9, yg (iofM m l n)), (17, .own 40), (67, zab (cmN m (perfL m) [(⟨cmI m l n, [], []⟩ : Par)] (perfL m).length)), (68, iv ((cmN m (perfL m) [(⟨cmI m l n, [], []⟩ : Par)] (perfL m).length).length : Int)), (69, iv (q : Int)), (19, .ptr 19 0 0 0), (73, .own 40)], [(40, .row rdgE ((((cmN m (perfL m) [(⟨cmI m l n, [], []⟩ : Par)] (perfL m).length).take q).map (rdOf (iofD m l n) (iofM m l n)))) 35 4), (19, .box (parE p) 124)]⟩ | 2 => ⟨[(8, yg (iofD m l n)), (9, yg (iofM m l n)), (67, zab (cmN m (perfL m) [(⟨cmI m l n, [], []⟩ : Par)] (perfL m).length)), (68, iv ((cmN m (perfL m) [(⟨cmI m l n, [], []⟩ : Par)] (perfL m).length).length : Int)), (69, iv (q : Int)), (19, .ptr 19 0 0 0), (86, .own 40)], [(40, .row rdgE ((((cmN m (perfL m) [(⟨cmI m l n, [], []⟩ : Par)] (perfL m).length).take q).map (rdOf (iofD m l n) (iofM m l n))) ++ [(rdOf (iofD m l n) (iofM m l n) p)]) 35 4), (19, .box (parE p) 124)]⟩ | _ => ⟨[(8, yg (iofD m l n)), (9, yg (iofM m l n)), (17, .own 40), (67, zab (cmN m (perfL m) [(⟨cmI m l n, [], []⟩ : Par)] (perfL m).length)), (68, iv ((cmN m (perfL m) [(⟨cmI m l n, [], []⟩ : Par)] (perfL m).length).length : Int)), (69, iv (q : Int)), (19, .ptr 19 0 0 0)], [(40, .row rdgE ((((cmN m (perfL m) [(⟨cmI m l n, [], []⟩ : Par)] (perfL m).length).take q).map (rdOf (iofD m l n) (iofM m l n))) ++ [(rdOf (iofD m l n) (iofM m l n) p)]) 35 4), (19, .box (parE p) 124)]⟩) mo (by kernel_rfl) (zbf (yi)) (fun j hj => ?_) (fun j c hc β hβ => ?_) ?_
   ·rcases j with _ | _ | _ | _ | j
    ·refine ⟨.inr ⟨_, rfl, rfl, rfl, rfl, Pur.stepA yM⟩, ?_⟩;refine ⟨.inr ⟨_, rfl, rfl, rfl, rfl, zar rfl rfl rfl (LeL.refl _) (y3 (iofD m l n) (by omega))⟩, ?_⟩;refine ⟨.inr ⟨_, rfl, rfl, rfl, rfl, Pur.stepA yM⟩, ?_⟩;refine ⟨.inr ⟨_, rfl, rfl, rfl, rfl, zar rfl rfl rfl (LeL.refl _) (y3 (iofM m l n) (by omega))⟩, ?_⟩;(iterate 2 refine ⟨.inr ⟨_, rfl, rfl, rfl, rfl, Pur.stepA yM⟩, ?_⟩);refine ⟨.inr ⟨_, rfl, rfl, rfl, rfl, zar rfl rfl rfl (LeL.refl _) (y3 p.made (by have := hPB.d; omega))⟩, ?_⟩;(iterate 2 refine ⟨.inr ⟨_, rfl, rfl, rfl, rfl, Pur.stepA yM⟩, ?_⟩);refine ⟨.inr ⟨_, rfl, rfl, rfl, rfl, zar rfl rfl rfl (LeL.refl _) (zcB p.items (by have := hPB.i; omega))⟩, ?_⟩;refine ⟨.inr ⟨_, rfl, rfl, rfl, rfl, Pur.stepA yM⟩, ?_⟩;refine ⟨.inr ⟨_, rfl, rfl, rfl, rfl, y4 (enc := rdgE) (l := [(rdOf (iofD m l n) (iofM m l n) p)]) sl28 ty35 ze35 (by decide) rfl rfl rfl rfl (by decide) (by decide) (fun _ => rfl) rfl⟩, ?_⟩;exact True.intro
    ·refine ⟨.inr ⟨_, rfl, rfl, rfl, rfl, Pur.stepA yM⟩, ?_⟩;refine ⟨.inr ⟨_, rfl, rfl, rfl, rfl, zar rfl rfl rfl (LeL.refl _) (y3 (iofD m l n) (by omega))⟩, ?_⟩;refine ⟨.inr ⟨_, rfl, rfl, rfl, rfl, Pur.stepA yM⟩, ?_⟩;refine ⟨.inr ⟨_, rfl, rfl, rfl, rfl, zar rfl rfl rfl (LeL.refl _) (y3 (iofM m l n) (by omega))⟩, ?_⟩;(iterate 2 refine ⟨.inr ⟨_, rfl, rfl, rfl, rfl, Pur.stepA yM⟩, ?_⟩);refine ⟨.inr ⟨_, rfl, rfl, rfl, rfl, zar rfl rfl rfl (LeL.refl _) (y3 p.made (by have := hPB.d; omega))⟩, ?_⟩;(iterate 2 refine ⟨.inr ⟨_, rfl, rfl, rfl, rfl, Pur.stepA yM⟩, ?_⟩);refine ⟨.inr ⟨_, rfl, rfl, rfl, rfl, zar rfl rfl rfl (LeL.refl _) (zcB p.items (by have := hPB.i; omega))⟩, ?_⟩;refine ⟨.inr ⟨_, rfl, rfl, rfl, rfl, Pur.stepA yM⟩, ?_⟩;refine ⟨.inr ⟨_, rfl, rfl, rfl, rfl, y4 (enc := rdgE) (l := [(rdOf (iofD m l n) (iofM m l n) p)]) sl28 ty35 ze35 (by decide) rfl rfl rfl rfl (by decide) (by decide) (fun _ => rfl) rfl⟩, ?_⟩;exact True.intro
    ·exact zj
    ·exact zj
    ·exact absurd (show j + 4 <= 3 from hj) (by omega)
   ·rcases j with _ | _ | _ | j
    ·obtain rfl : (0, []) = c := by injection hc
     refine yo rfl (yK (st0 := ⟨[(74, .ifb (β 1) (yg (iofD m l n))), (75, .ifb (β 2) (yg (iofD m l n))), (76, .ifb (β 3) (yg (iofM m l n))), (77, .ifb (β 4) (yg (iofM m l n))), (78, .ifb (β 5) (.ptr 19 0 0 (0 + 2))), (79, .ifb (β 6) (yg p.made)), (80, .ifb (β 7) (yg p.made)), (81, .ifb (β 8) (.ptr 19 0 0 (0 + 0))), (82, .ifb (β 9) (itsA p.items)), (83, .ifb (β 10) (tmsA (p.items.map (·.Dur)))), (84, .ifb (β 11) (rdgA (rdOf (iofD m l n) (iofM m l n) p))), (85, .ifb (β 12) (zI [(rdOf (iofD m l n) (iofM m l n) p)])), (8, yg (iofD m l n)), (9, yg (iofM m l n)), (17, .own 40), (67, zab (cmN m (perfL m) [(⟨cmI m l n, [], []⟩ : Par)] (perfL m).length)), (68, iv ((cmN m (perfL m) [(⟨cmI m l n, [], []⟩ : Par)] (perfL m).length).length : Int)), (69, iv (q : Int)), (19, .ptr 19 0 0 0)], [(40, .row rdgE ((((cmN m (perfL m) [(⟨cmI m l n, [], []⟩ : Par)] (perfL m).length).take q).map (rdOf (iofD m l n) (iofM m l n)))) 35 4), (19, .box (parE p) 124)]⟩) (yG) ?_);refine yz.imp (yr (Pur.stepA yM) rfl rfl) (yG)
    ·obtain rfl : (13, [5, 3, 1, 6, 8, 4, 2, 7, 9, 11, 10, 12, 0]) = c := by injection hc
     refine yo rfl (yK (st0 := ⟨[(74, yg (iofD m l n)), (75, yg (iofD m l n)), (76, yg (iofM m l n)), (77, yg (iofM m l n)), (78, .ptr 19 0 0 (0 + 2)), (79, yg p.made), (80, yg p.made), (81, .ptr 19 0 0 (0 + 0)), (82, itsA p.items), (83, tmsA (p.items.map (·.Dur))), (84, rdgA (rdOf (iofD m l n) (iofM m l n) p)), (85, zI [(rdOf (iofD m l n) (iofM m l n) p)]), (8, yg (iofD m l n)), (9, yg (iofM m l n)), (17, .own 40), (67, zab (cmN m (perfL m) [(⟨cmI m l n, [], []⟩ : Par)] (perfL m).length)), (68, iv ((cmN m (perfL m) [(⟨cmI m l n, [], []⟩ : Par)] (perfL m).length).length : Int)), (69, iv (q : Int)), (19, .ptr 19 0 0 0), (73, .own 40)], [(40, .row rdgE ((((cmN m (perfL m) [(⟨cmI m l n, [], []⟩ : Par)] (perfL m).length).take q).map (rdOf (iofD m l n) (iofM m l n)))) 35 4), (19, .box (parE p) 124)]⟩) (yG) ?_);refine yz.imp (za4 (l := (((cmN m (perfL m) [(⟨cmI m l n, [], []⟩ : Par)] (perfL m).length).take q).map (rdOf (iofD m l n) (iofM m l n)))) (l2 := [(rdOf (iofD m l n) (iofM m l n) p)]) rfl rfl rfl sl28 ti35 (by decide) (by decide) (fun _ => rfl) (fun _ => rfl) (by simp; omega) rfl) (yG)
    ·obtain rfl : (14, [12, 11, 10, 9, 8, 7, 6, 5, 4, 3, 2, 1, 0, 13]) = c := by injection hc
     refine yo rfl (yK (st0 := ⟨[(74, yg (iofD m l n)), (75, yg (iofD m l n)), (76, yg (iofM m l n)), (77, yg (iofM m l n)), (78, .ptr 19 0 0 (0 + 2)), (79, yg p.made), (80, yg p.made), (81, .ptr 19 0 0 (0 + 0)), (82, itsA p.items), (83, tmsA (p.items.map (·.Dur))), (84, rdgA (rdOf (iofD m l n) (iofM m l n) p)), (85, zI [(rdOf (iofD m l n) (iofM m l n) p)]), (8, yg (iofD m l n)), (9, yg (iofM m l n)), (67, zab (cmN m (perfL m) [(⟨cmI m l n, [], []⟩ : Par)] (perfL m).length)), (68, iv ((cmN m (perfL m) [(⟨cmI m l n, [], []⟩ : Par)] (perfL m).length).length : Int)), (69, iv (q : Int)), (19, .ptr 19 0 0 0), (86, .own 40)], [(40, .row rdgE ((((cmN m (perfL m) [(⟨cmI m l n, [], []⟩ : Par)] (perfL m).length).take q).map (rdOf (iofD m l n) (iofM m l n))) ++ [(rdOf (iofD m l n) (iofM m l n) p)]) 35 4), (19, .box (parE p) 124)]⟩) (yG) ?_);refine yz.imp (yr (Pur.stepA yM) rfl rfl) (yG)
    ·exact absurd hc (by simp)
   apply yc;refine yh ?_;refine yP (q + 1) (hI := yw)
  ·obtain rfl : q = (cmN m (perfL m) [(⟨cmI m l n, [], []⟩ : Par)] (perfL m).length).length := by omega
   have hW : ((cmN m (perfL m) [(⟨cmI m l n, [], []⟩ : Par)] (perfL m).length).take (cmN m (perfL m) [(⟨cmI m l n, [], []⟩ : Par)] (perfL m).length).length).map (rdOf (iofD m l n) (iofM m l n)) = cmV m l n := by rw [List.take_length]; exact hV
   apply X.exit;apply yb;refine yn ?_;refine X.ret ?_;refine RetQ.imp (Imp.freeze (k := 40) rfl) ?_;refine yu ?_ ?_;all_goals (first | (rw [hV]; done) | (rw [hE, h15]; done) | exact congrArg (fun z => zI z) hW | exact congrArg (fun z => AV.int .i64 z) hE.symm)
end Go.Rse
