/-
  Walks.
-/
import Derived.Test.YtkpbljifckjeoaaGreatDoorYJLvl1
set_option linter.unusedSimpArgs false
set_option linter.unusedVariables false
namespace Go.Rse
open Go Go.Proofs
section
attribute [local irreducible] Pur yr yw Ex X Fn Imp LeV LeB FnO It yx
def fsB : Nat -> Bool
 | 0 => true
 | _ + 1 => false
def lsB (k : Int) (l : List Ite) : Nat -> Bd
 | 0 => ⟨0, 0, false⟩
 | j + 1 => (bds k l).getD j default
theorem zgQ {k : Int} {l : List Ite} {j : Nat} {b : Bd} (h : (bds k l)[j]? = some b) : b = lsB k l (j + 1) := by
 show b = (bds k l).getD j default;rw [List.getD_eq_getElem?_getD, h]; rfl
theorem zny {k : Int} {l : List Ite} {j : Nat} (h : j < (bds k l).length) : (lsB k l (j + 1)).item < l.length := by
 have hb : (bds k l)[j]? = some (bds k l)[j] := lgg h;rw [← zgQ hb];have h2 := (znt k l).1 _ (List.mem_of_getElem? hb);have := h2.hi;rcases h2.it with h3 | ⟨h3, h4, h5⟩ <;> omega
theorem zpr {k : Int} {l : List Ite} {j : Nat} (h : j + 1 < (bds k l).length) : sgs0 l ((bds k l).take (j + 1)) ++ [sg0 l (lsB k l (j + 1)) (lsB k l (j + 2))] = sgs0 l ((bds k l).take (j + 2)) := by
 have hb : (bds k l)[j]? = some (bds k l)[j] := lgg (by omega);have hc : (bds k l)[j + 1]? = some (bds k l)[j + 1] := lgg h
 have e2 : (bds k l).take (j + 2) = ((bds k l).take j ++ [(bds k l)[j]]) ++ [(bds k l)[j + 1]] := by
  rw [List.take_add_one, List.take_add_one, hb, hc]; rfl
 have e1 : (bds k l).take (j + 1) = (bds k l).take j ++ [(bds k l)[j]] := by rw [List.take_add_one, hb]; rfl
 rw [e2, e1, zin, ← zgQ hb, ← zgQ hc]
theorem zsc {k : Int} {l : List Ite} : sgs0 l ((bds k l).take 0) = sgs0 l ((bds k l).take 1) := by
 cases bds k l with
 | nil => rfl
 | cons b r => rfl
theorem znz (k : Int) (l : List Ite) (j : Nat) : (sgs0 l ((bds k l).take j)).length <= 2 * l.length + 2 := by
 have h := zd1 k l l.length;have h2 := zeY k l;rw [zfk, List.length_take]; omega
theorem zsd {k : Int} {l : List Ite} {j : Nat} (h : j < (bds k l).length) : ((lsB k l (j + 1)).fin = true -> j + 1 = (bds k l).length) /\ ((lsB k l (j + 1)).fin = false -> j + 1 < (bds k l).length) := by
 have hb : (bds k l)[j]? = some (bds k l)[j] := lgg h;rw [← zgQ hb];have := zpl hb;rw [this];constructor
 ·intro h; simpa using h
 ·intro h;have : ¬ j + 1 = (bds k l).length := by simpa using h
  omega
theorem znA {k : Int} {l : List Ite} {j : Nat} (hf : fsB j = false) (h : j < (bds k l).length) : sgs0 l ((bds k l).take j) ++ [sg0 l (lsB k l j) (lsB k l (j + 1))] = sgs0 l ((bds k l).take (j + 1)) := by
 cases j with
 | zero => cases hf
 | succ i => exact zpr h
theorem zps {k : Int} {l : List Ite} {j : Nat} (hf : fsB j = true) : sgs0 l ((bds k l).take j) = sgs0 l ((bds k l).take (j + 1)) := by
 cases j with
 | zero => exact zsc
 | succ i => cases hf
theorem zpt {k : Int} {l : List Ite} {j : Nat} (hf : fsB j = false) (h : j < (bds k l).length) : (lsB k l j).item < l.length := by
 cases j with
 | zero => cases hf
 | succ i => exact zny (by omega)
attribute [local irreducible] bdK bds bdX sgs0 hdI
set_option maxHeartbeats 4000000 in
theorem zdj (q : List Ite) (k : Int) (hl : q.length <= 1000000) : FnO Tryz.prog 207 [.agg [itsA q], iv k] [] [] (.own 39) [(39, .row smE (sgs0 q (bds k q)) 232 7)] := by
 have hf0 : fsB 0 = true := by unfold fsB; rfl
 have hl0 : lsB k q 0 = ⟨0, 0, false⟩ := by unfold lsB; rfl
 have ht0 : [] = sgs0 q ((bds k q).take 0) := by rw [List.take_zero]; unfold sgs0; rfl
 have htl : sgs0 q ((bds k q).take (bdX k q).length) = sgs0 q (bds k q) := by rw [zlw, ← zeY, List.take_length]
 refine FnO.intro (ts := [(0, .agg [itsA q]), (1, iv k)]) (rv := [.tmp 4]) (n := 43) (cs := []) (by kernel_rfl) Tryz.func207 rfl Tryz.ntmps207 rfl rfl (by simp) rfl rfl rfl rfl (fun g w d vh => ?_);apply yg;refine zaS ?_;refine ya ?_;apply yI;refine zB ?_;apply Ex.nil;apply yl;refine X.imp (zaM smE 232 7 5 39 228 rfl rfl) ?_;refine gq ?_;refine yb (zey k q) ?_;refine gq ?_;refine X.range (sl := [2, 5, 6, 7]) (fun j => ([.ptr 2 0 0 0, .ptr 5 0 0 0, .ptr 6 0 0 0, .ptr 7 0 0 0], [(1000001, .hold vh []), (2, .box [itsA q] 240), (5, .box [.own 39] 228), (39, .row smE (sgs0 q ((bds k q).take j)) 232 7), (6, .box (bdE (lsB k q j)) 277), (7, .box [.bool (fsB j)] 4)])) (fun j => True) 900001 900002 rfl rfl (by decide) (fun j zs hj => by obtain ⟨i, _, rfl⟩ := ziX hj; rfl) (zdr k q (by omega)) trivial rfl rfl (by decide) (Nat.zero_le _) (by simp) (fun j zs hj => by obtain ⟨i, _, rfl⟩ := ziX hj; rfl) (fun _ => rfl) rfl rfl (fun l o us => ye) (trivial) (fun j zs hj hJ l ready busy rb vs g w hb hyB => ?_) (fun hJ => ?_)
 ·have hZ1 := ziX hj;obtain ⟨b, hb0, rfl⟩ := hZ1;have hbe := zgQ hb0;subst hbe;have hjl : j < (bds k q).length := (List.getElem?_eq_some_iff.1 hb0).1;have hlt := znz k q j;have hfin := zsd hjl;have hfs : fsB (j + 1) = false := by unfold fsB; rfl
  apply ym;refine zB ?_;refine Ex.mo ?_;apply Ex.nil;refine ⟨rfl, rfl, ?_⟩;refine gd ?_ ?_<;>intro hc1
  ·have hb1 := zpt hc1 hjl;have hb2 := zny (k := k) (l := q) (j := j) hjl;have hst := znA hc1 hjl;unfold sg0 bdF at hst;refine gd ?_ ?_<;>intro hc2
   ·rw [if_pos hc2] at hst;refine gq ?_;refine zf [24,25,26,27,28,29,30,31,32,33,34,35,36,37] [0,0,2,0,0,0,48,0,0,496,0,1024,4094,8190,16383,32767] mo ?_;(iterate 6 refine yc ?_);refine yM (zae q (lsB k q j) hb1) ?_;(iterate 2 refine yc ?_);refine yM (zae q (lsB k q (j + 1)) hb2) ?_;(iterate 3 refine yc ?_);refine ChM.step rfl rfl rfl (yF (k := 37) (enc := smE) (l := [⟨(lsB k q j).next, (lsB k q (j + 1)).item, hdI q (lsB k q j), hdI q (lsB k q (j + 1)), (lsB k q (j + 1)).fin, ⟨0, 0⟩⟩]) zo2 zo0 zo1 (by decide) rfl rfl rfl rfl (by decide) (by decide) (fun _ => rfl) rfl) rfl ?_;refine yE ?_;refine gd ?_ ?_<;>intro hc3
    ·have htk : (bds k q).take (j + 1) = bds k q := by rw [hfin.1 hc3, List.take_length]
     rw [htk] at hst;apply X.exit;refine ⟨[.ptr 2 0 0 0, .ptr 5 0 0 0, .ptr 6 0 0 0, .ptr 7 0 0 0], [(1000001, .hold vh []), (5, .box [.own 39] 228), (39, .row smE (sgs0 q (bds k q)) 232 7)], ye, ?_⟩;apply yg;refine zm ?_;refine X.ret ?_;refine zmh.mk (ts := [(4, .own 39)]) (.inr rfl) (ye) (.one (.tmp rfl (LeV.eq rfl)))
    apply yp;refine ⟨[.ptr 2 0 0 0, .ptr 5 0 0 0, .ptr 6 0 0 0, .ptr 7 0 0 0], [(1000001, .hold vh []), (2, .box [itsA q] 240), (5, .box [.own 39] 228), (39, .row smE (sgs0 q ((bds k q).take (j + 1))) 232 7), (6, .box (bdE (lsB k q (j + 1))) 277), (7, .box [.bool (fsB (j + 1))] 4)], ye, rfl, trivial⟩
   ·rw [if_neg (by omega)] at hst;apply yp;refine zf [24,25,26,27,28,29,30,31,32,33,34,35,36,37] [0,0,2,0,0,0,48,0,0,496,0,1024,4094,8190,16383,32767] mo ?_;(iterate 6 refine yc ?_);refine yM (zae q (lsB k q j) hb1) ?_;(iterate 2 refine yc ?_);refine yM (zae q (lsB k q (j + 1)) hb2) ?_;(iterate 3 refine yc ?_);refine ChM.step rfl rfl rfl (yF (k := 37) (enc := smE) (l := [⟨(lsB k q j).next, (lsB k q (j + 1)).next, hdI q (lsB k q j), hdI q (lsB k q (j + 1)), (lsB k q (j + 1)).fin, ⟨0, 0⟩⟩]) zo2 zo0 zo1 (by decide) rfl rfl rfl rfl (by decide) (by decide) (fun _ => rfl) rfl) rfl ?_;refine yE ?_;refine gd ?_ ?_<;>intro hc4
    ·have htk : (bds k q).take (j + 1) = bds k q := by rw [hfin.1 hc4, List.take_length]
     rw [htk] at hst;apply X.exit;refine ⟨[.ptr 2 0 0 0, .ptr 5 0 0 0, .ptr 6 0 0 0, .ptr 7 0 0 0], [(1000001, .hold vh []), (5, .box [.own 39] 228), (39, .row smE (sgs0 q (bds k q)) 232 7)], ye, ?_⟩;apply yg;refine zm ?_;refine X.ret ?_;refine zmh.mk (ts := [(4, .own 39)]) (.inr rfl) (ye) (.one (.tmp rfl (LeV.eq rfl)))
    apply yp;refine ⟨[.ptr 2 0 0 0, .ptr 5 0 0 0, .ptr 6 0 0 0, .ptr 7 0 0 0], [(1000001, .hold vh []), (2, .box [itsA q] 240), (5, .box [.own 39] 228), (39, .row smE (sgs0 q ((bds k q).take (j + 1))) 232 7), (6, .box (bdE (lsB k q (j + 1))) 277), (7, .box [.bool (fsB (j + 1))] 4)], ye, rfl, trivial⟩
  ·have hst := zps (k := k) (l := q) hc1;refine gd ?_ ?_<;>intro hc5
   ·have htk : (bds k q).take (j + 1) = bds k q := by rw [hfin.1 hc5, List.take_length]
    rw [htk] at hst;apply X.exit;refine ⟨[.ptr 2 0 0 0, .ptr 5 0 0 0, .ptr 6 0 0 0, .ptr 7 0 0 0], [(1000001, .hold vh []), (5, .box [.own 39] 228), (39, .row smE (sgs0 q (bds k q)) 232 7)], ye, ?_⟩;apply yg;refine zm ?_;refine X.ret ?_;refine zmh.mk (ts := [(4, .own 39)]) (.inr rfl) (ye) (.one (.tmp rfl (LeV.eq rfl)))
   apply yp;refine ⟨[.ptr 2 0 0 0, .ptr 5 0 0 0, .ptr 6 0 0 0, .ptr 7 0 0 0], [(1000001, .hold vh []), (2, .box [itsA q] 240), (5, .box [.own 39] 228), (39, .row smE (sgs0 q ((bds k q).take (j + 1))) 232 7), (6, .box (bdE (lsB k q (j + 1))) 277), (7, .box [.bool (fsB (j + 1))] 4)], ye, rfl, trivial⟩
 apply yg;refine zm ?_;refine X.ret ?_;refine zmh.mk (ts := [(4, .own 39)]) (.inr rfl) (ye) (.one (.tmp rfl (LeV.eq rfl)))
end
section
attribute [local irreducible] Pur yr yw Ex X Fn Imp LeV LeB FnO It yx
def lesE (e h : Int) (t d : Tm) : Int := if e = 0 /\ 0 <= h then lsE t d else e
def lesT (e h : Int) (t d : Tm) : Tm := if e = 0 /\ 0 <= h then subV t d else t
theorem zlD {t d : Tm} {h : Int} : (cn1 t h d).2 = lesE 0 h t d /\ ((cn1 t h d).2 = 0 -> (cn1 t h d).1 = lesT 0 h t d) := by
 unfold cn1 lesE lesT;by_cases h0 : h < 0
 ·have n : ¬ ((0 : Int) = 0 /\ 0 <= h) := by omega
  rw [if_pos h0, if_neg n, if_neg n]; exact ⟨rfl, fun _ => rfl⟩
 ·have n : (0 : Int) = 0 /\ 0 <= h := ⟨rfl, by omega⟩;rw [if_neg h0, if_pos n, if_pos n];by_cases h1 : lsE t d = 0
  ·rw [if_pos h1]; exact ⟨h1.symm, fun _ => rfl⟩
  ·rw [if_neg h1]; exact ⟨rfl, fun h => absurd h h1⟩
theorem zse {e h : Int} {t d : Tm} (he : ¬ e = 0) : lesE e h t d = e /\ lesT e h t d = t := by
 unfold lesE lesT; rw [if_neg (fun x => he x.1), if_neg (fun x => he x.1)]; exact ⟨rfl, rfl⟩
theorem zsf {l : List Ite} {s : Sgm} (h : (cnA l s).2 = 0) :
 (cnC l s).2 = lesE (lesE (cnA l s).2 s.Left (cnA l s).1 (itg l s.Left).After) s.Right (lesT (cnA l s).2 s.Left (cnA l s).1 (itg l s.Left).After) (itg l s.Right).Before ∧
 ((cnC l s).2 = 0 -> (cnC l s).1 = lesT (lesE (cnA l s).2 s.Left (cnA l s).1 (itg l s.Left).After) s.Right (lesT (cnA l s).2 s.Left (cnA l s).1 (itg l s.Left).After) (itg l s.Right).Before) := by
 have hB : cnB l s = cn1 (cnA l s).1 s.Left (itg l s.Left).After := by unfold cnB; rw [if_pos h]
 have hC : cnC l s = if (cnB l s).2 = 0 then cn1 (cnB l s).1 s.Right (itg l s.Right).Before else (tmZ, (cnB l s).2) := rfl
 rw [hC, hB, h];obtain ⟨a1, a2⟩ := zlD (t := (cnA l s).1) (d := (itg l s.Left).After) (h := s.Left);by_cases h0 : (cn1 (cnA l s).1 s.Left (itg l s.Left).After).2 = 0
 ·rw [if_pos h0, ← a1, h0, ← a2 h0];exact zlD
 ·rw [if_neg h0, ← a1, (zse h0).1];exact ⟨rfl, fun h => absurd h h0⟩
theorem zrh {u : Tm} {l : List Ite} {s : Sgm} (h : ¬ (cnA l s).2 = 0) : cnE u l s = (cnA l s).2 /\ cnV u l s = tmZ := by
 have hB : cnB l s = (tmZ, (cnA l s).2) := by unfold cnB; rw [if_neg h]
 have hC : cnC l s = (tmZ, (cnA l s).2) := by unfold cnC; rw [hB, if_neg h]
 unfold cnE cnV; rw [hC, if_neg h, if_neg h]; exact ⟨rfl, rfl⟩
theorem zri {u : Tm} {l : List Ite} {s : Sgm} (h : ¬ (cnC l s).2 = 0) : cnE u l s = (cnC l s).2 /\ cnV u l s = tmZ := by
 unfold cnE cnV; rw [if_neg h, if_neg h]; exact ⟨rfl, rfl⟩
theorem zrj {u : Tm} {l : List Ite} {s : Sgm} (h : (cnC l s).2 = 0) : cnE u l s = divE (cnC l s).1 u /\ cnV u l s = divV (cnC l s).1 u := by
 unfold cnE cnV; rw [if_pos h, if_pos h]; exact ⟨rfl, rfl⟩
theorem zuh {l : List Ite} {s : Sgm} (hl : ∀ x ∈ l, itF x = 0) : sumE (drL (itR l s)) = (cnA l s).2 /\ sumV (drL (itR l s)) = (cnA l s).1 := by
 have hf : ∀ L : List Tm, (∀ t ∈ L, ckT t = 0) -> yP L = 0 := by
  intro L
  induction L with
  | nil => intro _; rfl
  | cons t r ih => intro h; simp only [yP]; rw [if_pos (h t (by simp))]; exact ih fun x hx => h x (List.mem_cons_of_mem _ hx)
 have h0 : yP (drL (itR l s)) = 0 := hf _ fun t ht => by
  unfold drL itR at ht;obtain ⟨x, hx, rfl⟩ := List.mem_map.1 ht;exact (zsG (hl x (List.mem_of_mem_drop (List.mem_of_mem_take hx)))).2.1
 unfold sumE sumV cnA; rw [if_pos h0, if_pos h0]; exact ⟨rfl, rfl⟩
theorem znB {L : List Ite} {k : Nat} {x : Ite} (h : L[k]? = some x) : drL (L.take k) ++ [x.Dur] = drL (L.take (k + 1)) := by
 unfold drL; rw [List.take_add_one, h, List.map_append]; rfl
theorem zpu {l : List Ite} {s : Sgm} {k : Int} (hs : SgOk k l s) : ((itR l s).length : Int) = s.To - s.From := by
 unfold itR;have := hs.f0; have := hs.ft; have := hs.tl;rw [List.length_take, List.length_drop]; omega
def sgP (u : Tm) (l : List Ite) (L : List Sgm) (n : Nat) : List Sgm := (L.take n).map (segW u l) ++ L.drop n
theorem zui (u : Tm) (l : List Ite) (L : List Sgm) : L = sgP u l L 0 := rfl
theorem zpv (u : Tm) (l : List Ite) (L : List Sgm) (n : Nat) : (sgP u l L n).length = L.length := by
 unfold sgP; rw [List.length_append, List.length_map, List.length_take, List.length_drop]; omega
theorem zsg {u : Tm} {l : List Ite} {L : List Sgm} {n : Nat} {s : Sgm} (h : L[n]? = some s) : (sgP u l L n)[n]? = some s /\ (sgP u l L n).set n (segW u l s) = sgP u l L (n + 1) := by
 have hn := (List.getElem?_eq_some_iff.1 h).1;have hl : ((L.take n).map (segW u l)).length = n := by rw [List.length_map, List.length_take]; omega
 constructor
 ·unfold sgP; rw [List.getElem?_append_right (by omega), hl, Nat.sub_self, List.getElem?_drop, Nat.add_zero]; exact h
 ·unfold sgP;rw [List.set_append_right _ _ (by omega), hl, Nat.sub_self, List.drop_eq_getElem_cons hn, List.set_cons_zero, List.take_add_one, h];simp
theorem zpw (u : Tm) (l : List Ite) (L : List Sgm) : sgP u l L L.length = L.map (segW u l) := by
 unfold sgP; rw [List.take_length, List.drop_length, List.append_nil]
theorem zsh {u : Tm} {l : List Ite} {s : Sgm} (h : ¬ cnE u l s = 0) : segR u l s = cnE u l s := by unfold segR; rw [if_neg h]
attribute [local irreducible] sgP subV subE lsE lesE lesT cnA cnC divE divV sumE sumV
theorem zcV (x : Ite) : Fn Tryz.prog 226 [itA x] (tmA x.After) := by
 refine Fn.go Tryz.func226 Tryz.ntmps226 (fun g w d => ?_);refine gq ?_;refine RetQ.ret (.one (.cellA rfl rfl rfl rfl ty25 (LeV.eq ?_)));all_goals (first | rfl | (simp_all; done))
theorem zcW (x : Ite) : Fn Tryz.prog 227 [itA x] (tmA x.Before) := by
 refine Fn.go Tryz.func227 Tryz.ntmps227 (fun g w d => ?_);refine gq ?_;refine RetQ.ret (.one (.cellA rfl rfl rfl rfl ty25 (LeV.eq ?_)));all_goals (first | rfl | (simp_all; done))
theorem zaY (l : List Ite) (h e : Int) (t : Tm) (fp : FuncId) (d1 : Ite -> Tm) (hf : ∀ x, Fn Tryz.prog fp [itA x] (tmA (d1 x))) (hh : h < l.length) : FnO Tryz.prog 225 [iv h, .fn fp [], .ptr 2000000 0 0 0, .ptr 2000001 0 0 0, .ptr 2000002 0 0 0] [(2000000, .box [iv e] 28), (2000001, .box (tmE t) 25), (2000002, .box [itsA l] 240)] [2000000, 2000001, 2000002] (.tup []) [(2000000, .box [iv (lesE e h t (d1 (itg l h)))] 28), (2000001, .box (tmE (lesT e h t (d1 (itg l h)))) 25), (2000002, .box [itsA l] 240)] := by
 refine FnO.introX (ts := [(0, iv h), (1, .fn fp []), (2, .ptr 2000000 0 0 0), (3, .ptr 2000001 0 0 0), (4, .ptr 2000002 0 0 0)]) (rv := []) (n := 27) (cs := [.ptr 2000000 0 0 0, .ptr 2000001 0 0 0, .ptr 2000002 0 0 0]) (by kernel_rfl) Tryz.func225 rfl Tryz.ntmps225 rfl rfl (by simp) rfl rfl rfl rfl (fun g w d vs => ?_);apply yl;apply yg;iterate 2 refine ya ?_
 refine ExF.at 2 ?_;refine yA ?_;iterate 2 refine ExF.gi ?_
 refine gf ?_ ?_<;>intro hc1
 ·have hE : e = lesE e h t (d1 (itg l h)) := by unfold lesE; rw [if_neg (by omega)]
  have hT : t = lesT e h t (d1 (itg l h)) := by unfold lesT; rw [if_neg (by omega)]
  refine X.ret ?_;rw [← hE, ← hT];refine ziE.mk [] [] (.inr rfl) (.many (by decide) .nil);all_goals (rfl)
 have hE : lsE t (d1 (itg l h)) = lesE e h t (d1 (itg l h)) := by unfold lesE; rw [if_pos (by omega)]
 have hT : subV t (d1 (itg l h)) = lesT e h t (d1 (itg l h)) := by unfold lesT; rw [if_pos (by omega)]
 refine gq ?_;refine zf [13,14,15,16,17,18,19,20,21,22,23,24] [0,0,0,4,0,28,60,126,255,511,1023,1023,2047,8191] mo ?_;iterate 7 refine yc ?_
 refine yM (hf (itg l h)) ?_;refine yM (zbR t (d1 (itg l h))) ?_;iterate 3 refine yc ?_
 refine ChM.lt 11 ?_ ?_
 ·refine gd ?_ ?_<;>intro hc2
  ·have h14 : (14 : Int) = lesE e h t (d1 (itg l h)) := by rw [← hE]; unfold lsE; rw [if_pos hc2]
   apply ym;refine Ex.mo ?_;apply Ex.nil;rw [← h14, ← hT];refine ziE.mk [] [] (.inl rfl) (.many (by decide) .nil);all_goals (rfl)
  ·have h14 : subE t (d1 (itg l h)) = lesE e h t (d1 (itg l h)) := by rw [← hE]; unfold lsE; rw [if_neg hc2]
   apply yp;rw [← h14, ← hT];refine ziE.mk [] [] (.inl rfl) (.many (by decide) .nil);all_goals (rfl)
 ·refine gd ?_ ?_<;>intro hc3
  ·have h14 : (14 : Int) = lesE e h t (d1 (itg l h)) := by rw [← hE]; unfold lsE; rw [if_pos hc3]
   apply ym;refine Ex.mo ?_;apply Ex.nil;rw [← h14, ← hT];refine ziE.mk [] [] (.inl rfl) (.many (by decide) .nil);all_goals (rfl)
  ·have h14 : subE t (d1 (itg l h)) = lesE e h t (d1 (itg l h)) := by rw [← hE]; unfold lsE; rw [if_neg hc3]
   apply yp;rw [← h14, ← hT];refine ziE.mk [] [] (.inl rfl) (.many (by decide) .nil);all_goals (rfl)
set_option maxHeartbeats 4000000 in
theorem zds (l : List Ite) (s : Sgm) (u : Tm) (k : Int) (hs : SgOk k l s) (hP : ∀ x ∈ l, itF x = 0) (hl : l.length <= 1000000) : Fn Tryz.prog 208 [.agg [itsA l], smA s, tmA u] (.tup [tmA (cnV u l s), iv (cnE u l s)]) := by
 have f0 := hs.f0;have ft := hs.ft;have tl := hs.tl;have hrl := zpu hs;have hsm := zuh (s := s) hP;have hlf : s.Left < l.length := by rcases hs.lf with h | h <;> omega
 have hrt : s.Right < l.length := by rcases hs.rt with h | h <;> omega
 have hSum : Fn Tryz.prog 224 [tmsA (drL ((itR l s).take (itR l s).length))] (.tup [tmA (cnA l s).1, iv (cnA l s).2]) := by
  rw [List.take_length, ← hsm.1, ← hsm.2]; exact zkP (drL (itR l s)) (by unfold drL; rw [List.length_map]; omega)
 have hd0 : [] = drL ((itR l s).take 0) := by rw [List.take_zero]; rfl
 refine Fn.go Tryz.func208 Tryz.ntmps208 (fun g w d => ?_);apply yg;iterate 3 refine zaS ?_
 refine zB ?_;refine ya ?_;apply yI;refine yu ?_;iterate 2 apply yl
 refine X.imp (yL tmE 25 2 8 200 rfl rfl) ?_;apply ym;iterate 6 refine ya ?_
 refine zao (zcm rfl rfl rfl ziH zkx (fun _ => rfl) (by omega) (by omega) (by omega)) rfl ?_;refine gq ?_;refine yS (ι := Nat) (fun (n : Nat) => [(3, .ptr 3 0 0 0), (4, .ptr 4 0 0 0), (5, .ptr 5 0 0 0), (6, .ptr 6 0 0 0), (8, .own 200), (20, itsA (itR l s)), (21, iv (itR l s).length), (22, iv (n : Int))]) (fun (n : Nat) => [(3, .box [itsA l] 240), (4, .box (smE s) 232), (5, .box (tmE u) 25), (6, .box [iv 0, iv 0] 25), (200, .row tmE (drL ((itR l s).take n)) 25 2)]) (fun (n : Nat) => n <= (itR l s).length) (fun (n : Nat) => (itR l s).length - n) 0 (fun n hk => ?_);refine gd ?_ ?_<;>intro hc1
 ·obtain ⟨x, hx⟩ : ∃ x, (itR l s)[n]? = some x := ⟨_, lgg (by omega)⟩;have hx2 : (itR l s)[(n : Int).toNat]? = some x := by simpa using hx
  have hst := znB hx;have hdl : (drL ((itR l s).take n)).length <= 1000000 := by unfold drL; simp; omega
  refine gq ?_;refine yJ tmE [⟨_, _⟩] ?_;refine gq ?_;refine yz (n + 1)
 ·have hn : n = (itR l s).length := by omega
  subst hn;apply X.exit;apply yl;refine X.imp (Imp.freeze (k := 200) rfl) ?_;refine gq ?_;refine yb hSum ?_;refine gd ?_ ?_<;>intro hc2
  ·have hE := (zrh (u := u) hc2).1;have hV := (zrh (u := u) hc2).2;apply yl;refine zf [39,40] [0,0,1,7] mo ?_;(iterate 2 refine yc ?_);refine ChM.lt 1 ?_ ?_
   ·refine gq ?_;refine yH ty25 ?_ ?_;all_goals (first | (rw [hE]; done) | (rw [hV]; rfl) | (rw [hE]; rfl) | (rw [hV]; done))
   ·refine gq ?_;refine yH ty25 ?_ ?_;all_goals (first | (rw [hE]; done) | (rw [hV]; rfl) | (rw [hE]; rfl) | (rw [hV]; done))
  have hcl := zsf hc2;refine gq ?_;refine zaF [(2000000, 12), (2000001, 11), (2000002, 3)] (zaY l s.Left (cnA l s).2 (cnA l s).1 226 (fun x => x.After) zcV hlf) ?_;refine gq ?_;refine zaF [(2000000, 12), (2000001, 11), (2000002, 3)] (zaY l s.Right (lesE (cnA l s).2 s.Left (cnA l s).1 (itg l s.Left).After) (lesT (cnA l s).2 s.Left (cnA l s).1 (itg l s.Left).After) 227 (fun x => x.Before) zcW hrt) ?_;refine gd ?_ ?_<;>intro hc3
  ·have h0 : ¬ (cnC l s).2 = 0 := by rw [hcl.1]; exact hc3
   have hE := (zri (u := u) h0).1;have hV := (zri (u := u) h0).2;rw [hcl.1] at hE;apply yl;refine zf [52,53] [0,0,1,7] mo ?_;(iterate 2 refine yc ?_);refine ChM.lt 1 ?_ ?_
   ·refine gq ?_;refine yH ty25 ?_ ?_;all_goals (first | (rw [hE]; done) | (rw [hV]; rfl) | (rw [hE]; rfl) | (rw [hV]; done))
   ·refine gq ?_;refine yH ty25 ?_ ?_;all_goals (first | (rw [hE]; done) | (rw [hV]; rfl) | (rw [hE]; rfl) | (rw [hV]; done))
  have h0 : (cnC l s).2 = 0 := by rw [hcl.1]; exact hc3
  have hE := (zrj (u := u) h0).1;have hV := (zrj (u := u) h0).2;rw [hcl.2 h0] at hE hV;refine gq ?_;refine yb (zkW (lesT (lesE (cnA l s).2 s.Left (cnA l s).1 (itg l s.Left).After) s.Right (lesT (cnA l s).2 s.Left (cnA l s).1 (itg l s.Left).After) (itg l s.Right).Before) u) ?_;refine gq ?_;refine yH ty25 ?_ ?_;all_goals (first | (rw [hE]; done) | (rw [hV]; rfl) | (rw [hE]; rfl) | (rw [hV]; done))
set_option maxHeartbeats 4000000 in
theorem zbg (m : Mn) (k : Int) (l : List Ite) (h0 : -9223372036854775808 <= k) (h1 : k <= 9223372036854775807) (hl : l.length <= 1000000) : Fn Tryz.prog 175 [mnA m, iv k, itsA l] (.tup [smsA (segV m k l), iv (segE m k l)]) := by
 have hok := zlu k l;have hq0 := zui (unT m k) l (sgs0 l (bds k l));have hbl := znz k l (bds k l).length;rw [List.take_length] at hbl;refine Fn.go Tryz.func175 Tryz.ntmps175 (fun g w d => ?_);refine gq ?_;refine yb (zeX m k h0 h1) ?_;refine gd ?_ ?_<;>intro hc1
 ·have hE : segE m k l = unE m k := by unfold segE; rw [if_neg hc1]
  have hV : [] = segV m k l := by unfold segV; rw [if_neg (by rw [hE]; exact hc1)]
  apply yg;refine zh ?_;refine X.ret ?_;refine RetQ.imp (ye (ts := [(6, smsA []), (7, iv (unE m k))]) (hs := [])) ?_;refine yi ?_ ?_;all_goals (first | (rw [← hV]; done) | (rw [hE]; done) | exact congrArg (fun z => smsA z) hV | (rw [← hV]; rfl) | (rw [hE]; rfl))
 have hU : unE m k = 0 := hc1;refine gq ?_;refine yb (zen l (by omega)) ?_;refine gd ?_ ?_<;>intro hc2
 ·have hE : segE m k l = ckIE l := by unfold segE; rw [if_pos hU, if_neg hc2]
  have hV : [] = segV m k l := by unfold segV; rw [if_neg (by rw [hE]; exact hc2)]
  apply yg;refine zh ?_;refine X.ret ?_;refine RetQ.imp (ye (ts := [(6, smsA []), (7, iv (ckIE l))]) (hs := [])) ?_;refine yi ?_ ?_;all_goals (first | (rw [← hV]; done) | (rw [hE]; done) | exact congrArg (fun z => smsA z) hV | (rw [← hV]; rfl) | (rw [hE]; rfl))
 have hK : ckIE l = 0 := hc2;have hP := zj4 hK;have hEE : segE m k l = segX (unT m k) l (sgs0 l (bds k l)) := by unfold segE; rw [if_pos hU, if_pos hK]
 refine gq ?_;refine zaF [(39, 39)] (zdj l k hl) ?_;refine gq ?_
 refine yS (ι := Nat) (fun (n : Nat) => [(8, .ptr 8 0 0 0), (12, .ptr 12 0 0 0), (13, .own 39), (40, iv (sgs0 l (bds k l)).length), (41, iv (n : Int))]) (fun (n : Nat) => [(8, .box (tmE (unT m k)) 25), (12, .box [itsA l] 240), (39, .row smE (sgP (unT m k) l (sgs0 l (bds k l)) n) 232 7)]) (fun (n : Nat) => n <= (sgs0 l (bds k l)).length /\ segX (unT m k) l (sgs0 l (bds k l)) = segX (unT m k) l ((sgs0 l (bds k l)).drop n)) (fun (n : Nat) => (sgs0 l (bds k l)).length - n) 0 (fun n hk => ?_) (hJ := by
  exact ⟨by omega, rfl⟩) (h0 := by
  exact yd)
 obtain ⟨hk1, hk2⟩ := hk;refine gd ?_ ?_<;>intro hc3
 ·obtain ⟨s, hs⟩ : ∃ s, (sgs0 l (bds k l))[n]? = some s := ⟨_, lgg (by omega)⟩;have hso := hok.all s (List.mem_of_getElem? hs);have hpl := zpv (unT m k) l (sgs0 l (bds k l)) n;have hsa := zsg (u := unT m k) (l := l) hs;have hsn := hsa.1;have hst := hsa.2;have hsn2 : (sgP (unT m k) l (sgs0 l (bds k l)) n)[(n : Int).toNat]? = some s := by simpa using hsn
  refine gq ?_;refine zf [15,44,45,46,47,48,49,50,51,52,53] [0,0,0,6,14,0,63,127,255,255,0,1535,4095] mo ?_;iterate 4 refine yc ?_
  refine yc ?_ (hs := by exact zcd rfl rfl hsn2 rfl rfl TyK.h);refine yc ?_;refine yM (zds l s (unT m k) k hso hP hl) ?_;iterate 3 refine yc ?_
  refine ChM.step rfl rfl rfl (zbn (k := 15) zc25) rfl ?_;refine zec 9 ⟨[(8, .ptr 8 0 0 0), (12, .ptr 12 0 0 0), (13, .own 39), (40, iv (sgs0 l (bds k l)).length), (41, iv (n : Int)), (14, iv (n : Int)), (15, .ptr 15 0 0 0), (16, iv (cnE (unT m k) l s))], [(8, .box (tmE (unT m k)) 25), (12, .box [itsA l] 240), (39, .row smE (sgP (unT m k) l (sgs0 l (bds k l)) n) 232 7), (15, .box (tmE (cnV (unT m k) l s)) 25)]⟩ (fun Q hQ => ?_) (fun Q hQ => ?_) ?_
  ·refine Ex.mo ?_;refine ya ?_;exact Ex.imp yd hQ
  ·refine Ex.mo ?_;(iterate 2 refine ya ?_);exact Ex.imp yd hQ
  refine gd ?_ ?_<;>intro hc4
  ·have hR := zsh hc4;have hE : segE m k l = cnE (unT m k) l s := by rw [hEE, hk2, zhj hs, hR, if_neg hc4]
   have hV : [] = segV m k l := by unfold segV; rw [if_neg (by rw [hE]; exact hc4)]
   apply yg;refine zh ?_;refine X.ret ?_;refine RetQ.imp (ye (ts := [(6, smsA []), (7, iv (cnE (unT m k) l s))]) (hs := [])) ?_;refine yi ?_ ?_;all_goals (first | (rw [← hV]; done) | (rw [hE]; done) | exact congrArg (fun z => smsA z) hV | (rw [← hV]; rfl) | (rw [hE]; rfl))
  have hcE : cnE (unT m k) l s = 0 := hc4;apply yp;apply yl;apply yg;iterate 6 refine ya ?_
  refine ExF.at 6 ?_;refine yA ?_;iterate 3 refine ExF.gi ?_
  refine gf ?_ ?_<;>intro hc5
  ·have hR : segR (unT m k) l s = 14 := by unfold segR; rw [if_pos hcE, if_pos hc5]
   have hE : segE m k l = 14 := by rw [hEE, hk2, zhj hs, hR, if_neg (by decide)]
   have hV : [] = segV m k l := by unfold segV; rw [if_neg (by rw [hE]; decide)]
   apply yg;refine zm ?_;refine X.ret ?_;refine RetQ.imp (ye (ts := [(6, smsA []), (7, iv 14)]) (hs := [])) ?_;refine yi ?_ ?_;all_goals (first | (rw [← hV]; done) | (rw [hE]; done) | exact congrArg (fun z => smsA z) hV | (rw [← hV]; rfl) | (rw [hE]; rfl))
  have hR : segR (unT m k) l s = 0 := by unfold segR; rw [if_pos hcE, if_neg (by intro hh; rcases hc5 with h | h; (rw [hh.1] at h; cases h); exact hh.2 h)]
  apply yp;apply ym;iterate 5 refine ya ?_
  refine Ex.mo (hs := zp (n := 2) s (segW (unT m k) l s) rfl rfl hsn (fun _ => rfl) (by decide) rfl rfl rfl (by decide) rfl rfl rfl TyK.h) ?_;refine gq ?_
  refine yz (n + 1) (hJ := by
   exact ⟨by omega, by rw [hk2, zhj hs, if_pos hR]⟩) (hI := yd)
 ·have hn : n = (sgs0 l (bds k l)).length := by omega
  subst hn;have hE : segE m k l = 0 := by rw [hEE, hk2, List.drop_length]; rfl
  have hV : sgP (unT m k) l (sgs0 l (bds k l)) (sgs0 l (bds k l)).length = segV m k l := by unfold segV; rw [if_pos hE, zpw]
  apply X.exit;apply yg;refine zh ?_;refine X.ret ?_;refine RetQ.imp (Imp.freeze (k := 39) rfl) ?_;refine yi ?_ ?_;all_goals (first | (rw [← hV]; done) | (rw [hE]; done) | exact congrArg (fun z => smsA z) hV | (rw [← hV]; rfl) | (rw [hE]; rfl))
end
section
def sumA : Tm -> List Tm -> Tm
 | t, [] => t
 | t, d :: r => sumA (addV t d) r
end
end Go.Rse
