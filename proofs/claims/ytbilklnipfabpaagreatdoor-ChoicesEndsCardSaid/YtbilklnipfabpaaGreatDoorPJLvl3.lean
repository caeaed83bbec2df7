/-
  Walks: the segments of a level without their counts.
-/
import Derived.Test.YtbilklnipfabpaaGreatDoorPJLev1
import Derived.Test.YtbilklnipfabpaaGreatDoorPLogB
import Derived.Test.YtbilklnipfabpaaGreatDoorPJLev0
set_option linter.unusedSimpArgs false
set_option linter.unusedVariables false
namespace Go.Rse
open Go Go.Proofs
attribute [local irreducible] Pur yx yz Ex X Fn Imp LeV LeB FnO It yC
def fsB : Nat -> Bool
 | 0 => true
 | _ + 1 => false
def lsB (k : Int) (l : List Ite) : Nat -> Bd
 | 0 => ⟨0, 0, false⟩
 | j + 1 => (bds k l).getD j default
theorem zge {k : Int} {l : List Ite} {j : Nat} {b : Bd} (h : (bds k l)[j]? = some b) : b = lsB k l (j + 1) := by
 show b = (bds k l).getD j default;rw [List.getD_eq_getElem?_getD, h]; rfl
theorem zmQ {k : Int} {l : List Ite} {j : Nat} (h : j < (bds k l).length) : (lsB k l (j + 1)).item < l.length := by
 have hb : (bds k l)[j]? = some (bds k l)[j] := lgg h;rw [← zge hb];have h2 := (zmA k l).1 _ (List.mem_of_getElem? hb);have := h2.hi;rcases h2.it with h3 | ⟨h3, h4, h5⟩ <;> omega
theorem zoA {k : Int} {l : List Ite} {j : Nat} (h : j + 1 < (bds k l).length) : sgs0 l ((bds k l).take (j + 1)) ++ [sg0 l (lsB k l (j + 1)) (lsB k l (j + 2))] = sgs0 l ((bds k l).take (j + 2)) := by
 have hb : (bds k l)[j]? = some (bds k l)[j] := lgg (by omega);have hc : (bds k l)[j + 1]? = some (bds k l)[j + 1] := lgg h
 have e2 : (bds k l).take (j + 2) = ((bds k l).take j ++ [(bds k l)[j]]) ++ [(bds k l)[j + 1]] := by
  rw [List.take_add_one, List.take_add_one, hb, hc]; rfl
 have e1 : (bds k l).take (j + 1) = (bds k l).take j ++ [(bds k l)[j]] := by rw [List.take_add_one, hb]; rfl
 rw [e2, e1, zg8, ← zge hb, ← zge hc]
theorem zq1 {k : Int} {l : List Ite} : sgs0 l ((bds k l).take 0) = sgs0 l ((bds k l).take 1) := by
 cases bds k l with
 | nil => rfl
 | cons b r => rfl
theorem zmR (k : Int) (l : List Ite) (j : Nat) : (sgs0 l ((bds k l).take j)).length <= 2 * l.length + 2 := by
 have h := zdf k l l.length;have h2 := zea k l;rw [zcH, List.length_take]; omega
theorem zq2 {k : Int} {l : List Ite} {j : Nat} (h : j < (bds k l).length) : ((lsB k l (j + 1)).fin = true -> j + 1 = (bds k l).length) /\ ((lsB k l (j + 1)).fin = false -> j + 1 < (bds k l).length) := by
 have hb : (bds k l)[j]? = some (bds k l)[j] := lgg h;rw [← zge hb];have := zor hb;rw [this];constructor
 ·intro h; simpa using h
 ·intro h;have : ¬ j + 1 = (bds k l).length := by simpa using h
  omega
theorem zmS {k : Int} {l : List Ite} {j : Nat} (hf : fsB j = false) (h : j < (bds k l).length) : sgs0 l ((bds k l).take j) ++ [sg0 l (lsB k l j) (lsB k l (j + 1))] = sgs0 l ((bds k l).take (j + 1)) := by
 cases j with
 | zero => cases hf
 | succ i => exact zoA h
theorem zoB {k : Int} {l : List Ite} {j : Nat} (hf : fsB j = true) : sgs0 l ((bds k l).take j) = sgs0 l ((bds k l).take (j + 1)) := by
 cases j with
 | zero => exact zq1
 | succ i => cases hf
theorem zoC {k : Int} {l : List Ite} {j : Nat} (hf : fsB j = false) (h : j < (bds k l).length) : (lsB k l j).item < l.length := by
 cases j with
 | zero => cases hf
 | succ i => exact zmQ (by omega)
attribute [local irreducible] bdK bds bdX sgs0 hdI
set_option maxHeartbeats 4000000 in
theorem zcw (q : List Ite) (k : Int) (hl : q.length <= 1000000) : FnO Tryz.prog 99 [.agg [itsA q], iv k] [] [] (.own 39) [(39, .row smE (sgs0 q (bds k q)) 162 7)] := by
 have hf0 : fsB 0 = true := by unfold fsB; rfl
 have hl0 : lsB k q 0 = ⟨0, 0, false⟩ := by unfold lsB; rfl
 have ht0 : [] = sgs0 q ((bds k q).take 0) := by rw [List.take_zero]; unfold sgs0; rfl
 have htl : sgs0 q ((bds k q).take (bdX k q).length) = sgs0 q (bds k q) := by rw [zkt, ← zea, List.take_length]
 refine FnO.intro (ts := [(0, .agg [itsA q]), (1, iv k)]) (rv := [.tmp 4]) (n := 43) (cs := []) (by kernel_rfl) Tryz.func99 rfl Tryz.ntmps99 rfl rfl (by simp) rfl rfl rfl rfl (fun g w d vh => ?_);apply yb;refine yF ?_;refine ya ?_;apply yj;refine yH ?_;apply Ex.nil;apply yd;refine X.imp (zaU smE 162 7 5 39 97 rfl rfl) ?_;apply yc;refine yH ?_;apply yj;refine yH ?_;refine Ex.mo ?_;apply Ex.nil;apply yd;apply yb;iterate 3 refine ya ?_
 refine yq (zdE k q) ?_;apply Ex.nil;apply X.block;refine X.range (sl := [2, 5, 6, 7]) (fun j => ([.ptr 2 0 0 0, .ptr 5 0 0 0, .ptr 6 0 0 0, .ptr 7 0 0 0], [(1000001, .hold vh []), (2, .box [itsA q] 158), (5, .box [.own 39] 97), (39, .row smE (sgs0 q ((bds k q).take j)) 162 7), (6, .box (bdE (lsB k q j)) 215), (7, .box [.bool (fsB j)] 4)])) (fun j => True) 900001 900002 rfl rfl (by decide) (fun j zs hj => by obtain ⟨i, _, rfl⟩ := zhX hj; rfl) (zcJ k q (by omega)) trivial rfl rfl (by decide) (Nat.zero_le _) (by simp) (fun j zs hj => by obtain ⟨i, _, rfl⟩ := zhX hj; rfl) (fun _ => rfl) rfl rfl (fun l o us => yi) (trivial) (fun j zs hj hJ l ready busy rb vs g w hb hyB => ?_) (fun hJ => ?_)
 ·have hZ1 := zhX hj;obtain ⟨b, hb0, rfl⟩ := hZ1;have hbe := zge hb0;subst hbe;have hjl : j < (bds k q).length := (List.getElem?_eq_some_iff.1 hb0).1;have hlt := zmR k q j;have hfin := zq2 hjl;have hfs : fsB (j + 1) = false := by unfold fsB; rfl
  apply yc;refine yH ?_;refine Ex.mo ?_;apply Ex.nil;refine ⟨rfl, rfl, ?_⟩;apply X.block;apply yd;apply yb;refine yh ?_;refine yk rfl ?_ ?_<;>intro hc1
  ·have hb1 := zoC hc1 hjl;have hb2 := zmQ (k := k) (l := q) (j := j) hjl;have hst := zmS hc1 hjl;unfold sg0 bdF at hst;apply yb;refine yn ?_;apply yd;apply yb;refine yn ?_;refine yk rfl ?_ ?_<;>intro hc2
   ·rw [if_pos hc2] at hst;apply yc;refine yn ?_;refine zy [24,25,26,27,28,29,30,31,32,33,34,35,36,37] [0,0,2,0,0,0,48,0,0,496,0,1024,4094,8190,16383,32767] mo ?_;(iterate 6 refine yl ?_);refine zz (zX q (lsB k q j) hb1) ?_;(iterate 2 refine yl ?_);refine zz (zX q (lsB k q (j + 1)) hb2) ?_;(iterate 3 refine yl ?_);refine ChM.step rfl rfl rfl (yE (k := 37) (enc := smE) (l := [⟨(lsB k q j).next, (lsB k q (j + 1)).item, hdI q (lsB k q j), hdI q (lsB k q (j + 1)), (lsB k q (j + 1)).fin, ⟨0, 0⟩⟩]) sl97 znI znJ (by decide) rfl rfl rfl rfl (by decide) (by decide) (fun _ => rfl) rfl) rfl ?_;refine y7 ?_;(iterate 2 refine Ex.mo ?_);apply yj;refine ya ?_;(iterate 2 refine Ex.mo ?_);apply yj;refine yh ?_;refine yk rfl ?_ ?_<;>intro hc3
    ·have htk : (bds k q).take (j + 1) = bds k q := by rw [hfin.1 hc3, List.take_length]
     rw [htk] at hst;apply X.exit;refine ⟨[.ptr 2 0 0 0, .ptr 5 0 0 0, .ptr 6 0 0 0, .ptr 7 0 0 0], [(1000001, .hold vh []), (5, .box [.own 39] 97), (39, .row smE (sgs0 q (bds k q)) 162 7)], yi, ?_⟩;apply yb;refine yh ?_;refine X.ret ?_;refine zkW.mk (ts := [(4, .own 39)]) (.inr rfl) (yi) (.one (.tmp rfl (LeV.eq rfl)))
    apply yf;refine ⟨[.ptr 2 0 0 0, .ptr 5 0 0 0, .ptr 6 0 0 0, .ptr 7 0 0 0], [(1000001, .hold vh []), (2, .box [itsA q] 158), (5, .box [.own 39] 97), (39, .row smE (sgs0 q ((bds k q).take (j + 1))) 162 7), (6, .box (bdE (lsB k q (j + 1))) 215), (7, .box [.bool (fsB (j + 1))] 4)], yi, rfl, trivial⟩
   ·rw [if_neg (by omega)] at hst;apply yf;refine zy [24,25,26,27,28,29,30,31,32,33,34,35,36,37] [0,0,2,0,0,0,48,0,0,496,0,1024,4094,8190,16383,32767] mo ?_;(iterate 6 refine yl ?_);refine zz (zX q (lsB k q j) hb1) ?_;(iterate 2 refine yl ?_);refine zz (zX q (lsB k q (j + 1)) hb2) ?_;(iterate 3 refine yl ?_);refine ChM.step rfl rfl rfl (yE (k := 37) (enc := smE) (l := [⟨(lsB k q j).next, (lsB k q (j + 1)).next, hdI q (lsB k q j), hdI q (lsB k q (j + 1)), (lsB k q (j + 1)).fin, ⟨0, 0⟩⟩]) sl97 znI znJ (by decide) rfl rfl rfl rfl (by decide) (by decide) (fun _ => rfl) rfl) rfl ?_;refine y7 ?_;(iterate 2 refine Ex.mo ?_);apply yj;refine ya ?_;(iterate 2 refine Ex.mo ?_);apply yj;refine yh ?_;refine yk rfl ?_ ?_<;>intro hc4
    ·have htk : (bds k q).take (j + 1) = bds k q := by rw [hfin.1 hc4, List.take_length]
     rw [htk] at hst;apply X.exit;refine ⟨[.ptr 2 0 0 0, .ptr 5 0 0 0, .ptr 6 0 0 0, .ptr 7 0 0 0], [(1000001, .hold vh []), (5, .box [.own 39] 97), (39, .row smE (sgs0 q (bds k q)) 162 7)], yi, ?_⟩;apply yb;refine yh ?_;refine X.ret ?_;refine zkW.mk (ts := [(4, .own 39)]) (.inr rfl) (yi) (.one (.tmp rfl (LeV.eq rfl)))
    apply yf;refine ⟨[.ptr 2 0 0 0, .ptr 5 0 0 0, .ptr 6 0 0 0, .ptr 7 0 0 0], [(1000001, .hold vh []), (2, .box [itsA q] 158), (5, .box [.own 39] 97), (39, .row smE (sgs0 q ((bds k q).take (j + 1))) 162 7), (6, .box (bdE (lsB k q (j + 1))) 215), (7, .box [.bool (fsB (j + 1))] 4)], yi, rfl, trivial⟩
  ·have hst := zoB (k := k) (l := q) hc1;apply yf;apply yb;refine ya ?_;(iterate 2 refine Ex.mo ?_);apply yj;refine yh ?_;refine yk rfl ?_ ?_<;>intro hc5
   ·have htk : (bds k q).take (j + 1) = bds k q := by rw [hfin.1 hc5, List.take_length]
    rw [htk] at hst;apply X.exit;refine ⟨[.ptr 2 0 0 0, .ptr 5 0 0 0, .ptr 6 0 0 0, .ptr 7 0 0 0], [(1000001, .hold vh []), (5, .box [.own 39] 97), (39, .row smE (sgs0 q (bds k q)) 162 7)], yi, ?_⟩;apply yb;refine yh ?_;refine X.ret ?_;refine zkW.mk (ts := [(4, .own 39)]) (.inr rfl) (yi) (.one (.tmp rfl (LeV.eq rfl)))
   apply yf;refine ⟨[.ptr 2 0 0 0, .ptr 5 0 0 0, .ptr 6 0 0 0, .ptr 7 0 0 0], [(1000001, .hold vh []), (2, .box [itsA q] 158), (5, .box [.own 39] 97), (39, .row smE (sgs0 q ((bds k q).take (j + 1))) 162 7), (6, .box (bdE (lsB k q (j + 1))) 215), (7, .box [.bool (fsB (j + 1))] 4)], yi, rfl, trivial⟩
 apply yb;refine yh ?_;refine X.ret ?_;refine zkW.mk (ts := [(4, .own 39)]) (.inr rfl) (yi) (.one (.tmp rfl (LeV.eq rfl)))
end Go.Rse
namespace Go.Rse
open Go Go.Proofs
attribute [local irreducible] Pur yx yz Ex X Fn Imp LeV LeB FnO It yC
def lesE (e h : Int) (t d : Tm) : Int := if e = 0 /\ 0 <= h then lsE t d else e
def lesT (e h : Int) (t d : Tm) : Tm := if e = 0 /\ 0 <= h then subV t d else t
theorem zkB {t d : Tm} {h : Int} : (cn1 t h d).2 = lesE 0 h t d /\ ((cn1 t h d).2 = 0 -> (cn1 t h d).1 = lesT 0 h t d) := by
 unfold cn1 lesE lesT;by_cases h0 : h < 0
 ·have n : ¬ ((0 : Int) = 0 /\ 0 <= h) := by omega
  rw [if_pos h0, if_neg n, if_neg n]; exact ⟨rfl, fun _ => rfl⟩
 ·have n : (0 : Int) = 0 /\ 0 <= h := ⟨rfl, by omega⟩;rw [if_neg h0, if_pos n, if_pos n];by_cases h1 : lsE t d = 0
  ·rw [if_pos h1]; exact ⟨h1.symm, fun _ => rfl⟩
  ·rw [if_neg h1]; exact ⟨rfl, fun h => absurd h h1⟩
theorem zq3 {e h : Int} {t d : Tm} (he : ¬ e = 0) : lesE e h t d = e /\ lesT e h t d = t := by
 unfold lesE lesT; rw [if_neg (fun x => he x.1), if_neg (fun x => he x.1)]; exact ⟨rfl, rfl⟩
theorem zq4 {l : List Ite} {s : Sgm} (h : (cnA l s).2 = 0) :
 (cnC l s).2 = lesE (lesE (cnA l s).2 s.Left (cnA l s).1 (itg l s.Left).After) s.Right (lesT (cnA l s).2 s.Left (cnA l s).1 (itg l s.Left).After) (itg l s.Right).Before ∧
 ((cnC l s).2 = 0 -> (cnC l s).1 = lesT (lesE (cnA l s).2 s.Left (cnA l s).1 (itg l s.Left).After) s.Right (lesT (cnA l s).2 s.Left (cnA l s).1 (itg l s.Left).After) (itg l s.Right).Before) := by
 have hB : cnB l s = cn1 (cnA l s).1 s.Left (itg l s.Left).After := by unfold cnB; rw [if_pos h]
 have hC : cnC l s = if (cnB l s).2 = 0 then cn1 (cnB l s).1 s.Right (itg l s.Right).Before else (tmZ, (cnB l s).2) := rfl
 rw [hC, hB, h];obtain ⟨a1, a2⟩ := zkB (t := (cnA l s).1) (d := (itg l s.Left).After) (h := s.Left);by_cases h0 : (cn1 (cnA l s).1 s.Left (itg l s.Left).After).2 = 0
 ·rw [if_pos h0, ← a1, h0, ← a2 h0];exact zkB
 ·rw [if_neg h0, ← a1, (zq3 h0).1];exact ⟨rfl, fun h => absurd h h0⟩
theorem zpQ {u : Tm} {l : List Ite} {s : Sgm} (h : ¬ (cnA l s).2 = 0) : cnE u l s = (cnA l s).2 /\ cnV u l s = tmZ := by
 have hB : cnB l s = (tmZ, (cnA l s).2) := by unfold cnB; rw [if_neg h]
 have hC : cnC l s = (tmZ, (cnA l s).2) := by unfold cnC; rw [hB, if_neg h]
 unfold cnE cnV; rw [hC, if_neg h, if_neg h]; exact ⟨rfl, rfl⟩
theorem zpR {u : Tm} {l : List Ite} {s : Sgm} (h : ¬ (cnC l s).2 = 0) : cnE u l s = (cnC l s).2 /\ cnV u l s = tmZ := by
 unfold cnE cnV; rw [if_neg h, if_neg h]; exact ⟨rfl, rfl⟩
theorem zpS {u : Tm} {l : List Ite} {s : Sgm} (h : (cnC l s).2 = 0) : cnE u l s = divE (cnC l s).1 u /\ cnV u l s = divV (cnC l s).1 u := by
 unfold cnE cnV; rw [if_pos h, if_pos h]; exact ⟨rfl, rfl⟩
theorem zsK {l : List Ite} {s : Sgm} (hl : ∀ x ∈ l, itF x = 0) : sumE (drL (itR l s)) = (cnA l s).2 /\ sumV (drL (itR l s)) = (cnA l s).1 := by
 have hf : ∀ L : List Tm, (∀ t ∈ L, ckT t = 0) -> yL L = 0 := by
  intro L
  induction L with
  | nil => intro _; rfl
  | cons t r ih => intro h; simp only [yL]; rw [if_pos (h t (by simp))]; exact ih fun x hx => h x (List.mem_cons_of_mem _ hx)
 have h0 : yL (drL (itR l s)) = 0 := hf _ fun t ht => by
  unfold drL itR at ht;obtain ⟨x, hx, rfl⟩ := List.mem_map.1 ht;exact (zdD (hl x (List.mem_of_mem_drop (List.mem_of_mem_take hx)))).2.1
 unfold sumE sumV cnA; rw [if_pos h0, if_pos h0]; exact ⟨rfl, rfl⟩
theorem zmT {L : List Ite} {k : Nat} {x : Ite} (h : L[k]? = some x) : drL (L.take k) ++ [x.Dur] = drL (L.take (k + 1)) := by
 unfold drL; rw [List.take_add_one, h, List.map_append]; rfl
theorem zoD {l : List Ite} {s : Sgm} {k : Int} (hs : SgOk k l s) : ((itR l s).length : Int) = s.To - s.From := by
 unfold itR;have := hs.f0; have := hs.ft; have := hs.tl;rw [List.length_take, List.length_drop]; omega
def sgP (u : Tm) (l : List Ite) (L : List Sgm) (n : Nat) : List Sgm := (L.take n).map (segW u l) ++ L.drop n
theorem zsL (u : Tm) (l : List Ite) (L : List Sgm) : L = sgP u l L 0 := rfl
theorem zoE (u : Tm) (l : List Ite) (L : List Sgm) (n : Nat) : (sgP u l L n).length = L.length := by
 unfold sgP; rw [List.length_append, List.length_map, List.length_take, List.length_drop]; omega
theorem zq5 {u : Tm} {l : List Ite} {L : List Sgm} {n : Nat} {s : Sgm} (h : L[n]? = some s) : (sgP u l L n)[n]? = some s /\ (sgP u l L n).set n (segW u l s) = sgP u l L (n + 1) := by
 have hn := (List.getElem?_eq_some_iff.1 h).1;have hl : ((L.take n).map (segW u l)).length = n := by rw [List.length_map, List.length_take]; omega
 constructor
 ·unfold sgP; rw [List.getElem?_append_right (by omega), hl, Nat.sub_self, List.getElem?_drop, Nat.add_zero]; exact h
 ·unfold sgP;rw [List.set_append_right _ _ (by omega), hl, Nat.sub_self, List.drop_eq_getElem_cons hn, List.set_cons_zero, List.take_add_one, h];simp
theorem zoF (u : Tm) (l : List Ite) (L : List Sgm) : sgP u l L L.length = L.map (segW u l) := by
 unfold sgP; rw [List.take_length, List.drop_length, List.append_nil]
theorem zq6 {u : Tm} {l : List Ite} {s : Sgm} (h : ¬ cnE u l s = 0) : segR u l s = cnE u l s := by unfold segR; rw [if_neg h]
attribute [local irreducible] sgP subV subE lsE lesE lesT cnA cnC divE divV sumE sumV
theorem zcd (x : Ite) : Fn Tryz.prog 142 [itA x] (tmA x.After) := by
 refine Fn.go Tryz.func142 Tryz.ntmps142 (fun g w d => ?_);apply yb;refine yF ?_;refine yH ?_;apply yj;iterate 2 refine ya ?_
 refine Ex.mo ?_;apply Ex.nil;refine X.ret ?_;refine RetQ.ret (.one (.cellA rfl rfl rfl rfl ty46 (LeV.eq ?_)));all_goals (first | rfl | (simp_all; done))
theorem zce (x : Ite) : Fn Tryz.prog 143 [itA x] (tmA x.Before) := by
 refine Fn.go Tryz.func143 Tryz.ntmps143 (fun g w d => ?_);apply yb;refine yF ?_;refine yH ?_;apply yj;iterate 2 refine ya ?_
 refine Ex.mo ?_;apply Ex.nil;refine X.ret ?_;refine RetQ.ret (.one (.cellA rfl rfl rfl rfl ty46 (LeV.eq ?_)));all_goals (first | rfl | (simp_all; done))
theorem zaB (l : List Ite) (h e : Int) (t : Tm) (fp : FuncId) (d1 : Ite -> Tm) (hf : ∀ x, Fn Tryz.prog fp [itA x] (tmA (d1 x))) (hh : h < l.length) : FnO Tryz.prog 141 [iv h, .fn fp [], .ptr 2000000 0 0 0, .ptr 2000001 0 0 0, .ptr 2000002 0 0 0] [(2000000, .box [iv e] 29), (2000001, .box (tmE t) 46), (2000002, .box [itsA l] 158)] [2000000, 2000001, 2000002] (.tup []) [(2000000, .box [iv (lesE e h t (d1 (itg l h)))] 29), (2000001, .box (tmE (lesT e h t (d1 (itg l h)))) 46), (2000002, .box [itsA l] 158)] := by
 refine FnO.introX (ts := [(0, iv h), (1, .fn fp []), (2, .ptr 2000000 0 0 0), (3, .ptr 2000001 0 0 0), (4, .ptr 2000002 0 0 0)]) (rv := []) (n := 27) (cs := [.ptr 2000000 0 0 0, .ptr 2000001 0 0 0, .ptr 2000002 0 0 0]) (by kernel_rfl) Tryz.func141 rfl Tryz.ntmps141 rfl rfl (by simp) rfl rfl rfl rfl (fun g w d vs => ?_);apply yd;apply yb;iterate 2 refine ya ?_
 refine ExF.at 2 ?_;refine yI ?_;iterate 2 refine ExF.gi ?_
 refine yA ?_;refine ye ?_;refine yk rfl ?_ ?_<;>intro hc1
 ·have hE : e = lesE e h t (d1 (itg l h)) := by unfold lesE; rw [if_neg (by omega)]
  have hT : t = lesT e h t (d1 (itg l h)) := by unfold lesT; rw [if_neg (by omega)]
  refine X.ret ?_;rw [← hE, ← hT];refine zk9.mk [] [] (.inr rfl) (.many (by decide) .nil);all_goals (rfl)
 have hE : lsE t (d1 (itg l h)) = lesE e h t (d1 (itg l h)) := by unfold lesE; rw [if_pos (by omega)]
 have hT : subV t (d1 (itg l h)) = lesT e h t (d1 (itg l h)) := by unfold lesT; rw [if_pos (by omega)]
 apply yf;apply yd;refine zy [13,14,15,16,17,18,19,20,21,22,23,24] [0,0,0,4,0,28,60,126,255,511,1023,1023,2047,8191] mo ?_;iterate 7 refine yl ?_
 refine zz (hf (itg l h)) ?_;refine zz (zci t (d1 (itg l h))) ?_;iterate 3 refine yl ?_
 refine ChM.lt 11 ?_ ?_
 ·iterate 2 refine Ex.mo ?_
  apply yj;refine yh ?_;refine yk rfl ?_ ?_<;>intro hc2
  ·have h14 : (14 : Int) = lesE e h t (d1 (itg l h)) := by rw [← hE]; unfold lsE; rw [if_pos hc2]
   apply yc;refine Ex.mo ?_;apply Ex.nil;rw [← h14, ← hT];refine zk9.mk [] [] (.inl rfl) (.many (by decide) .nil);all_goals (rfl)
  ·have h14 : subE t (d1 (itg l h)) = lesE e h t (d1 (itg l h)) := by rw [← hE]; unfold lsE; rw [if_neg hc2]
   apply yf;rw [← h14, ← hT];refine zk9.mk [] [] (.inl rfl) (.many (by decide) .nil);all_goals (rfl)
 ·refine Ex.mo ?_;refine ya ?_;refine Ex.mo ?_;apply yj;refine yh ?_;refine yk rfl ?_ ?_<;>intro hc3
  ·have h14 : (14 : Int) = lesE e h t (d1 (itg l h)) := by rw [← hE]; unfold lsE; rw [if_pos hc3]
   apply yc;refine Ex.mo ?_;apply Ex.nil;rw [← h14, ← hT];refine zk9.mk [] [] (.inl rfl) (.many (by decide) .nil);all_goals (rfl)
  ·have h14 : subE t (d1 (itg l h)) = lesE e h t (d1 (itg l h)) := by rw [← hE]; unfold lsE; rw [if_neg hc3]
   apply yf;rw [← h14, ← hT];refine zk9.mk [] [] (.inl rfl) (.many (by decide) .nil);all_goals (rfl)
set_option maxHeartbeats 4000000 in
theorem zcL (l : List Ite) (s : Sgm) (u : Tm) (k : Int) (hs : SgOk k l s) (hP : ∀ x ∈ l, itF x = 0) (hl : l.length <= 1000000) : Fn Tryz.prog 100 [.agg [itsA l], smA s, tmA u] (.tup [tmA (cnV u l s), iv (cnE u l s)]) := by
 have f0 := hs.f0;have ft := hs.ft;have tl := hs.tl;have hrl := zoD hs;have hsm := zsK (s := s) hP;have hlf : s.Left < l.length := by rcases hs.lf with h | h <;> omega
 have hrt : s.Right < l.length := by rcases hs.rt with h | h <;> omega
 have hSum : Fn Tryz.prog 22 [tmsA (drL ((itR l s).take (itR l s).length))] (.tup [tmA (cnA l s).1, iv (cnA l s).2]) := by
  rw [List.take_length, ← hsm.1, ← hsm.2]; exact zdJ (drL (itR l s)) (by unfold drL; rw [List.length_map]; omega)
 have hd0 : [] = drL ((itR l s).take 0) := by rw [List.take_zero]; rfl
 refine Fn.go Tryz.func100 Tryz.ntmps100 (fun g w d => ?_);apply yb;iterate 3 refine yF ?_
 refine yH ?_;refine ya ?_;apply yj;refine ye ?_;iterate 2 apply yd
 refine X.imp (y5 tmE 46 2 8 200 rfl rfl) ?_;apply yc;iterate 6 refine ya ?_
 refine zO (zbN rfl rfl rfl sl89 ty95 (fun _ => rfl) (by omega) (by omega) (by omega)) rfl ?_;refine yh ?_;apply X.block;refine zh (ι := Nat) (fun (n : Nat) => [(3, .ptr 3 0 0 0), (4, .ptr 4 0 0 0), (5, .ptr 5 0 0 0), (6, .ptr 6 0 0 0), (8, .own 200), (20, itsA (itR l s)), (21, iv (itR l s).length), (22, iv (n : Int))]) (fun (n : Nat) => [(3, .box [itsA l] 158), (4, .box (smE s) 162), (5, .box (tmE u) 46), (6, .box [iv 0, iv 0] 46), (200, .row tmE (drL ((itR l s).take n)) 46 2)]) (fun (n : Nat) => n <= (itR l s).length) (fun (n : Nat) => (itR l s).length - n) 0 (fun n hk => ?_);apply yb;refine ye ?_;apply yd;refine yk rfl ?_ ?_<;>intro hc1
 ·obtain ⟨x, hx⟩ : ∃ x, (itR l s)[n]? = some x := ⟨_, lgg (by omega)⟩;have hx2 : (itR l s)[(n : Int).toNat]? = some x := by simpa using hx
  have hst := zmT hx;have hdl : (drL ((itR l s).take n)).length <= 1000000 := by unfold drL; simp; omega
  apply yf;apply yd;apply X.block;apply yb;iterate 2 refine ya ?_
  refine yH ?_;refine Ex.mo ?_;apply Ex.nil;apply yc;iterate 3 refine ya ?_
  refine y2 tmE [⟨_, _⟩] ?_;refine Ex.mo ?_;refine ye ?_;apply yc;refine yh ?_;refine yP (n + 1)
 ·have hn : n = (itR l s).length := by omega
  subst hn;apply X.exit;apply yd;refine X.imp (Imp.freeze (k := 200) rfl) ?_;apply yc;refine ya ?_;refine yq hSum ?_;iterate 3 refine ya ?_
  iterate 2 refine yH ?_
  iterate 2 refine Ex.mo ?_
  apply Ex.nil;apply yd;apply yb;refine yh ?_;refine yk rfl ?_ ?_<;>intro hc2
  ·have hE := (zpQ (u := u) hc2).1;have hV := (zpQ (u := u) hc2).2;apply yd;refine zy [39,40] [0,0,1,7] mo ?_;(iterate 2 refine yl ?_);refine ChM.lt 1 ?_ ?_
   ·refine Ex.mo ?_;refine ye ?_;refine X.ret ?_;refine y6 ty46 ?_ ?_;all_goals (first | (rw [hE]; done) | (rw [hV]; rfl) | (rw [hE]; rfl) | (rw [hV]; done))
   ·refine Ex.mo ?_;refine yh ?_;refine X.ret ?_;refine y6 ty46 ?_ ?_;all_goals (first | (rw [hE]; done) | (rw [hV]; rfl) | (rw [hE]; rfl) | (rw [hV]; done))
  have hcl := zq4 hc2;apply yf;apply yb;iterate 2 refine ya ?_
  apply yj;iterate 3 refine ya ?_
  refine z6 [(2000000, 12), (2000001, 11), (2000002, 3)] (zaB l s.Left (cnA l s).2 (cnA l s).1 142 (fun x => x.After) zcd hlf) ?_;apply yj;iterate 3 refine ya ?_
  refine z6 [(2000000, 12), (2000001, 11), (2000002, 3)] (zaB l s.Right (lesE (cnA l s).2 s.Left (cnA l s).1 (itg l s.Left).After) (lesT (cnA l s).2 s.Left (cnA l s).1 (itg l s.Left).After) 143 (fun x => x.Before) zce hrt) ?_;apply Ex.nil;apply yd;apply yb;refine yh ?_;refine yk rfl ?_ ?_<;>intro hc3
  ·have h0 : ¬ (cnC l s).2 = 0 := by rw [hcl.1]; exact hc3
   have hE := (zpR (u := u) h0).1;have hV := (zpR (u := u) h0).2;rw [hcl.1] at hE;apply yd;refine zy [52,53] [0,0,1,7] mo ?_;(iterate 2 refine yl ?_);refine ChM.lt 1 ?_ ?_
   ·refine Ex.mo ?_;refine ye ?_;refine X.ret ?_;refine y6 ty46 ?_ ?_;all_goals (first | (rw [hE]; done) | (rw [hV]; rfl) | (rw [hE]; rfl) | (rw [hV]; done))
   ·refine Ex.mo ?_;refine yh ?_;refine X.ret ?_;refine y6 ty46 ?_ ?_;all_goals (first | (rw [hE]; done) | (rw [hV]; rfl) | (rw [hE]; rfl) | (rw [hV]; done))
  have h0 : (cnC l s).2 = 0 := by rw [hcl.1]; exact hc3
  have hE := (zpS (u := u) h0).1;have hV := (zpS (u := u) h0).2;rw [hcl.2 h0] at hE hV;apply yf;apply yb;iterate 2 refine ya ?_
  refine yq (zjF (lesT (lesE (cnA l s).2 s.Left (cnA l s).1 (itg l s.Left).After) s.Right (lesT (cnA l s).2 s.Left (cnA l s).1 (itg l s.Left).After) (itg l s.Right).Before) u) ?_;iterate 2 refine ya ?_
  refine Ex.mo ?_;refine ye ?_;refine X.ret ?_;refine y6 ty46 ?_ ?_;all_goals (first | (rw [hE]; done) | (rw [hV]; rfl) | (rw [hE]; rfl) | (rw [hV]; done))
set_option maxHeartbeats 4000000 in
theorem zae (m : Mn) (k : Int) (l : List Ite) (h0 : -9223372036854775808 <= k) (h1 : k <= 9223372036854775807) (hl : l.length <= 1000000) : Fn Tryz.prog 47 [mnA m, iv k, itsA l] (.tup [smsA (segV m k l), iv (segE m k l)]) := by
 have hok := zks k l;have hq0 := zsL (unT m k) l (sgs0 l (bds k l));have hbl := zmR k l (bds k l).length;rw [List.take_length] at hbl;refine Fn.go Tryz.func47 Tryz.ntmps47 (fun g w d => ?_);apply yb;refine yF ?_;iterate 2 refine ya ?_
 apply yj;iterate 2 refine ya ?_
 refine yq (zd9 m k h0 h1) ?_;iterate 3 refine ya ?_
 refine yH ?_;refine Ex.mo ?_;refine ye ?_;apply yd;apply yb;refine yh ?_;refine yk rfl ?_ ?_<;>intro hc1
 ·have hE : segE m k l = unE m k := by unfold segE; rw [if_neg hc1]
  have hV : [] = segV m k l := by unfold segV; rw [if_neg (by rw [hE]; exact hc1)]
  apply yb;refine yn ?_;refine X.ret ?_;refine RetQ.imp (yi (ts := [(6, smsA []), (7, iv (unE m k))]) (hs := [])) ?_;refine yu ?_ ?_;all_goals (first | (rw [← hV]; done) | (rw [hE]; done) | exact congrArg (fun z => smsA z) hV | (rw [← hV]; rfl) | (rw [hE]; rfl))
 have hU : unE m k = 0 := hc1;apply yf;apply yd;apply yb;refine ya ?_;refine yq (zgR l (by omega)) ?_;iterate 5 refine ya ?_
 apply yj;refine yh ?_;refine yk rfl ?_ ?_<;>intro hc2
 ·have hE : segE m k l = ckIE l := by unfold segE; rw [if_pos hU, if_neg hc2]
  have hV : [] = segV m k l := by unfold segV; rw [if_neg (by rw [hE]; exact hc2)]
  apply yb;refine yn ?_;refine X.ret ?_;refine RetQ.imp (yi (ts := [(6, smsA []), (7, iv (ckIE l))]) (hs := [])) ?_;refine yu ?_ ?_;all_goals (first | (rw [← hV]; done) | (rw [hE]; done) | exact congrArg (fun z => smsA z) hV | (rw [← hV]; rfl) | (rw [hE]; rfl))
 have hK : ckIE l = 0 := hc2;have hP := ziL hK;have hEE : segE m k l = segX (unT m k) l (sgs0 l (bds k l)) := by unfold segE; rw [if_pos hU, if_pos hK]
 apply yf;apply yb;iterate 2 refine ya ?_
 refine yH ?_;refine Ex.mo ?_;apply yj;iterate 2 refine ya ?_
 refine z6 [(39, 39)] (zcw l k hl) ?_;refine ye ?_;apply yd;apply yb;refine yn ?_;apply X.block
 refine zh (ι := Nat) (fun (n : Nat) => [(8, .ptr 8 0 0 0), (12, .ptr 12 0 0 0), (13, .own 39), (40, iv (sgs0 l (bds k l)).length), (41, iv (n : Int))]) (fun (n : Nat) => [(8, .box (tmE (unT m k)) 46), (12, .box [itsA l] 158), (39, .row smE (sgP (unT m k) l (sgs0 l (bds k l)) n) 162 7)]) (fun (n : Nat) => n <= (sgs0 l (bds k l)).length /\ segX (unT m k) l (sgs0 l (bds k l)) = segX (unT m k) l ((sgs0 l (bds k l)).drop n)) (fun (n : Nat) => (sgs0 l (bds k l)).length - n) 0 (fun n hk => ?_) (hJ := by
  exact ⟨by omega, rfl⟩) (h0 := by
  exact yw)
 obtain ⟨hk1, hk2⟩ := hk;apply yb;refine ye ?_;apply yd;refine yk rfl ?_ ?_<;>intro hc3
 ·obtain ⟨s, hs⟩ : ∃ s, (sgs0 l (bds k l))[n]? = some s := ⟨_, lgg (by omega)⟩;have hso := hok.all s (List.mem_of_getElem? hs);have hpl := zoE (unT m k) l (sgs0 l (bds k l)) n;have hsa := zq5 (u := unT m k) (l := l) hs;have hsn := hsa.1;have hst := hsa.2;have hsn2 : (sgP (unT m k) l (sgs0 l (bds k l)) n)[(n : Int).toNat]? = some s := by simpa using hsn
  apply yf;apply yd;apply X.block;apply yb;refine yh ?_;apply yd;refine zy [15,44,45,46,47,48,49,50,51,52,53] [0,0,0,6,14,0,63,127,255,255,0,1535,4095] mo ?_;iterate 4 refine yl ?_
  refine yl ?_ (hs := by exact zaL rfl rfl hsn2 rfl rfl TyK.h);refine yl ?_;refine zz (zcL l s (unT m k) k hso hP hl) ?_;iterate 3 refine yl ?_
  refine ChM.step rfl rfl rfl (zaW (k := 15) zc46) rfl ?_;refine zdq 9 ⟨[(8, .ptr 8 0 0 0), (12, .ptr 12 0 0 0), (13, .own 39), (40, iv (sgs0 l (bds k l)).length), (41, iv (n : Int)), (14, iv (n : Int)), (15, .ptr 15 0 0 0), (16, iv (cnE (unT m k) l s))], [(8, .box (tmE (unT m k)) 46), (12, .box [itsA l] 158), (39, .row smE (sgP (unT m k) l (sgs0 l (bds k l)) n) 162 7), (15, .box (tmE (cnV (unT m k) l s)) 46)]⟩ (fun Q hQ => ?_) (fun Q hQ => ?_) ?_
  ·refine Ex.mo ?_;refine ya ?_;exact Ex.imp yw hQ
  ·refine Ex.mo ?_;(iterate 2 refine ya ?_);exact Ex.imp yw hQ
  apply Ex.nil;apply yd;apply yb;refine yh ?_;refine yk rfl ?_ ?_<;>intro hc4
  ·have hR := zq6 hc4;have hE : segE m k l = cnE (unT m k) l s := by rw [hEE, hk2, zf6 hs, hR, if_neg hc4]
   have hV : [] = segV m k l := by unfold segV; rw [if_neg (by rw [hE]; exact hc4)]
   apply yb;refine yn ?_;refine X.ret ?_;refine RetQ.imp (yi (ts := [(6, smsA []), (7, iv (cnE (unT m k) l s))]) (hs := [])) ?_;refine yu ?_ ?_;all_goals (first | (rw [← hV]; done) | (rw [hE]; done) | exact congrArg (fun z => smsA z) hV | (rw [← hV]; rfl) | (rw [hE]; rfl))
  have hcE : cnE (unT m k) l s = 0 := hc4;apply yf;apply yd;apply yb;iterate 6 refine ya ?_
  refine ExF.at 6 ?_;refine yI ?_;iterate 3 refine ExF.gi ?_
  refine yA ?_;refine ye ?_;refine yk rfl ?_ ?_<;>intro hc5
  ·have hR : segR (unT m k) l s = 14 := by unfold segR; rw [if_pos hcE, if_pos hc5]
   have hE : segE m k l = 14 := by rw [hEE, hk2, zf6 hs, hR, if_neg (by decide)]
   have hV : [] = segV m k l := by unfold segV; rw [if_neg (by rw [hE]; decide)]
   apply yb;refine yh ?_;refine X.ret ?_;refine RetQ.imp (yi (ts := [(6, smsA []), (7, iv 14)]) (hs := [])) ?_;refine yu ?_ ?_;all_goals (first | (rw [← hV]; done) | (rw [hE]; done) | exact congrArg (fun z => smsA z) hV | (rw [← hV]; rfl) | (rw [hE]; rfl))
  have hR : segR (unT m k) l s = 0 := by unfold segR; rw [if_pos hcE, if_neg (by intro hh; rcases hc5 with h | h; (rw [hh.1] at h; cases h); exact hh.2 h)]
  apply yf;apply yc;iterate 5 refine ya ?_
  refine Ex.mo (hs := zi (n := 2) s (segW (unT m k) l s) rfl rfl hsn (fun _ => rfl) (by decide) rfl rfl rfl (by decide) rfl rfl rfl TyK.h) ?_;apply Ex.nil;apply yc;refine yh ?_
  refine yP (n + 1) (hJ := by
   exact ⟨by omega, by rw [hk2, zf6 hs, if_pos hR]⟩) (hI := yw)
 ·have hn : n = (sgs0 l (bds k l)).length := by omega
  subst hn;have hE : segE m k l = 0 := by rw [hEE, hk2, List.drop_length]; rfl
  have hV : sgP (unT m k) l (sgs0 l (bds k l)) (sgs0 l (bds k l)).length = segV m k l := by unfold segV; rw [if_pos hE, zoF]
  apply X.exit;apply yb;refine yn ?_;refine X.ret ?_;refine RetQ.imp (Imp.freeze (k := 39) rfl) ?_;refine yu ?_ ?_;all_goals (first | (rw [← hV]; done) | (rw [hE]; done) | exact congrArg (fun z => smsA z) hV | (rw [← hV]; rfl) | (rw [hE]; rfl))
end Go.Rse
namespace Go.Rse
open Go Go.Proofs
def sumA : Tm -> List Tm -> Tm
 | t, [] => t
 | t, d :: r => sumA (addV t d) r
end Go.Rse
