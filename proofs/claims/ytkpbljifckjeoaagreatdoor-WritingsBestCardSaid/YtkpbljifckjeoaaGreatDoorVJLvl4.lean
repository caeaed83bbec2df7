/-
  Walks: the count of a segment, the segments of a level.
-/
import Derived.Test.YtkpbljifckjeoaaGreatDoorVJLvl2
set_option linter.unusedSimpArgs false
set_option linter.unusedVariables false
namespace Go.Rse
open Go Go.Proofs
attribute [local irreducible] Pur yw yy Ex X Fn Imp LeV LeB FnO It yz
def lesE (e h : Int) (t d : Tm) : Int := if e = 0 /\ 0 <= h then lsE t d else e
def lesT (e h : Int) (t d : Tm) : Tm := if e = 0 /\ 0 <= h then subV t d else t
theorem zlh {t d : Tm} {h : Int} : (cn1 t h d).2 = lesE 0 h t d /\ ((cn1 t h d).2 = 0 -> (cn1 t h d).1 = lesT 0 h t d) := by
 unfold cn1 lesE lesT;by_cases h0 : h < 0
 ·have n : ¬ ((0 : Int) = 0 /\ 0 <= h) := by omega
  rw [if_pos h0, if_neg n, if_neg n]; exact ⟨rfl, fun _ => rfl⟩
 ·have n : (0 : Int) = 0 /\ 0 <= h := ⟨rfl, by omega⟩;rw [if_neg h0, if_pos n, if_pos n];by_cases h1 : lsE t d = 0
  ·rw [if_pos h1]; exact ⟨h1.symm, fun _ => rfl⟩
  ·rw [if_neg h1]; exact ⟨rfl, fun h => absurd h h1⟩
theorem zrU {e h : Int} {t d : Tm} (he : ¬ e = 0) : lesE e h t d = e /\ lesT e h t d = t := by
 unfold lesE lesT; rw [if_neg (fun x => he x.1), if_neg (fun x => he x.1)]; exact ⟨rfl, rfl⟩
theorem zrV {l : List Ite} {s : Sgm} (h : (cnA l s).2 = 0) :
 (cnC l s).2 = lesE (lesE (cnA l s).2 s.Left (cnA l s).1 (itg l s.Left).After) s.Right (lesT (cnA l s).2 s.Left (cnA l s).1 (itg l s.Left).After) (itg l s.Right).Before ∧
 ((cnC l s).2 = 0 -> (cnC l s).1 = lesT (lesE (cnA l s).2 s.Left (cnA l s).1 (itg l s.Left).After) s.Right (lesT (cnA l s).2 s.Left (cnA l s).1 (itg l s.Left).After) (itg l s.Right).Before) := by
 have hB : cnB l s = cn1 (cnA l s).1 s.Left (itg l s.Left).After := by unfold cnB; rw [if_pos h]
 have hC : cnC l s = if (cnB l s).2 = 0 then cn1 (cnB l s).1 s.Right (itg l s.Right).Before else (tmZ, (cnB l s).2) := rfl
 rw [hC, hB, h];obtain ⟨a1, a2⟩ := zlh (t := (cnA l s).1) (d := (itg l s.Left).After) (h := s.Left);by_cases h0 : (cn1 (cnA l s).1 s.Left (itg l s.Left).After).2 = 0
 ·rw [if_pos h0, ← a1, h0, ← a2 h0];exact zlh
 ·rw [if_neg h0, ← a1, (zrU h0).1];exact ⟨rfl, fun h => absurd h h0⟩
theorem zqV {u : Tm} {l : List Ite} {s : Sgm} (h : ¬ (cnA l s).2 = 0) : cnE u l s = (cnA l s).2 /\ cnV u l s = tmZ := by
 have hB : cnB l s = (tmZ, (cnA l s).2) := by unfold cnB; rw [if_neg h]
 have hC : cnC l s = (tmZ, (cnA l s).2) := by unfold cnC; rw [hB, if_neg h]
 unfold cnE cnV; rw [hC, if_neg h, if_neg h]; exact ⟨rfl, rfl⟩
theorem zqW {u : Tm} {l : List Ite} {s : Sgm} (h : ¬ (cnC l s).2 = 0) : cnE u l s = (cnC l s).2 /\ cnV u l s = tmZ := by
 unfold cnE cnV; rw [if_neg h, if_neg h]; exact ⟨rfl, rfl⟩
theorem zqX {u : Tm} {l : List Ite} {s : Sgm} (h : (cnC l s).2 = 0) : cnE u l s = divE (cnC l s).1 u /\ cnV u l s = divV (cnC l s).1 u := by
 unfold cnE cnV; rw [if_pos h, if_pos h]; exact ⟨rfl, rfl⟩
theorem ztI {l : List Ite} {s : Sgm} (hl : ∀ x ∈ l, itF x = 0) : sumE (drL (itR l s)) = (cnA l s).2 /\ sumV (drL (itR l s)) = (cnA l s).1 := by
 have hf : ∀ L : List Tm, (∀ t ∈ L, ckT t = 0) -> yQ L = 0 := by
  intro L
  induction L with
  | nil => intro _; rfl
  | cons t r ih => intro h; simp only [yQ]; rw [if_pos (h t (by simp))]; exact ih fun x hx => h x (List.mem_cons_of_mem _ hx)
 have h0 : yQ (drL (itR l s)) = 0 := hf _ fun t ht => by
  unfold drL itR at ht;obtain ⟨x, hx, rfl⟩ := List.mem_map.1 ht;exact (zsr (hl x (List.mem_of_mem_drop (List.mem_of_mem_take hx)))).2.1
 unfold sumE sumV cnA; rw [if_pos h0, if_pos h0]; exact ⟨rfl, rfl⟩
theorem zng {L : List Ite} {k : Nat} {x : Ite} (h : L[k]? = some x) : drL (L.take k) ++ [x.Dur] = drL (L.take (k + 1)) := by
 unfold drL; rw [List.take_add_one, h, List.map_append]; rfl
theorem zo9 {l : List Ite} {s : Sgm} {k : Int} (hs : SgOk k l s) : ((itR l s).length : Int) = s.To - s.From := by
 unfold itR;have := hs.f0; have := hs.ft; have := hs.tl;rw [List.length_take, List.length_drop]; omega
def sgP (u : Tm) (l : List Ite) (L : List Sgm) (n : Nat) : List Sgm := (L.take n).map (segW u l) ++ L.drop n
theorem ztJ (u : Tm) (l : List Ite) (L : List Sgm) : L = sgP u l L 0 := rfl
theorem zpa (u : Tm) (l : List Ite) (L : List Sgm) (n : Nat) : (sgP u l L n).length = L.length := by
 unfold sgP; rw [List.length_append, List.length_map, List.length_take, List.length_drop]; omega
theorem zrW {u : Tm} {l : List Ite} {L : List Sgm} {n : Nat} {s : Sgm} (h : L[n]? = some s) : (sgP u l L n)[n]? = some s /\ (sgP u l L n).set n (segW u l s) = sgP u l L (n + 1) := by
 have hn := (List.getElem?_eq_some_iff.1 h).1;have hl : ((L.take n).map (segW u l)).length = n := by rw [List.length_map, List.length_take]; omega
 constructor
 ·unfold sgP; rw [List.getElem?_append_right (by omega), hl, Nat.sub_self, List.getElem?_drop, Nat.add_zero]; exact h
 ·unfold sgP;rw [List.set_append_right _ _ (by omega), hl, Nat.sub_self, List.drop_eq_getElem_cons hn, List.set_cons_zero, List.take_add_one, h];simp
theorem zpb (u : Tm) (l : List Ite) (L : List Sgm) : sgP u l L L.length = L.map (segW u l) := by
 unfold sgP; rw [List.take_length, List.drop_length, List.append_nil]
theorem zrX {u : Tm} {l : List Ite} {s : Sgm} (h : ¬ cnE u l s = 0) : segR u l s = cnE u l s := by unfold segR; rw [if_neg h]
attribute [local irreducible] sgP subV subE lsE lesE lesT cnA cnC divE divV sumE sumV
theorem zcS (x : Ite) : Fn Tryz.prog 226 [itA x] (tmA x.After) := by
 refine Fn.go Tryz.func226 Tryz.ntmps226 (fun g w d => ?_);refine gq ?_;refine RetQ.ret (.one (.cellA rfl rfl rfl rfl ty25 (LeV.eq ?_)));all_goals (first | rfl | (simp_all; done))
theorem zcT (x : Ite) : Fn Tryz.prog 227 [itA x] (tmA x.Before) := by
 refine Fn.go Tryz.func227 Tryz.ntmps227 (fun g w d => ?_);refine gq ?_;refine RetQ.ret (.one (.cellA rfl rfl rfl rfl ty25 (LeV.eq ?_)));all_goals (first | rfl | (simp_all; done))
theorem zaX (l : List Ite) (h e : Int) (t : Tm) (fp : FuncId) (d1 : Ite -> Tm) (hf : ∀ x, Fn Tryz.prog fp [itA x] (tmA (d1 x))) (hh : h < l.length) : FnO Tryz.prog 225 [iv h, .fn fp [], .ptr 2000000 0 0 0, .ptr 2000001 0 0 0, .ptr 2000002 0 0 0] [(2000000, .box [iv e] 28), (2000001, .box (tmE t) 25), (2000002, .box [itsA l] 240)] [2000000, 2000001, 2000002] (.tup []) [(2000000, .box [iv (lesE e h t (d1 (itg l h)))] 28), (2000001, .box (tmE (lesT e h t (d1 (itg l h)))) 25), (2000002, .box [itsA l] 240)] := by
 refine FnO.introX (ts := [(0, iv h), (1, .fn fp []), (2, .ptr 2000000 0 0 0), (3, .ptr 2000001 0 0 0), (4, .ptr 2000002 0 0 0)]) (rv := []) (n := 27) (cs := [.ptr 2000000 0 0 0, .ptr 2000001 0 0 0, .ptr 2000002 0 0 0]) (by kernel_rfl) Tryz.func225 rfl Tryz.ntmps225 rfl rfl (by simp) rfl rfl rfl rfl (fun g w d vs => ?_);apply yn;apply yg;iterate 2 refine ya ?_
 refine ExF.at 2 ?_;refine yC ?_;iterate 2 refine ExF.gi ?_
 refine ym ?_;refine gd ?_ ?_<;>intro hc1
 ·have hE : e = lesE e h t (d1 (itg l h)) := by unfold lesE; rw [if_neg (by omega)]
  have hT : t = lesT e h t (d1 (itg l h)) := by unfold lesT; rw [if_neg (by omega)]
  refine X.ret ?_;rw [← hE, ← hT];refine zit.mk [] [] (.inr rfl) (.many (by decide) .nil);all_goals (rfl)
 have hE : lsE t (d1 (itg l h)) = lesE e h t (d1 (itg l h)) := by unfold lesE; rw [if_pos (by omega)]
 have hT : subV t (d1 (itg l h)) = lesT e h t (d1 (itg l h)) := by unfold lesT; rw [if_pos (by omega)]
 refine gq ?_;refine zn [13,14,15,16,17,18,19,20,21,22,23,24] [0,0,0,4,0,28,60,126,255,511,1023,1023,2047,8191] mo ?_;iterate 7 refine yc ?_
 refine yT (hf (itg l h)) ?_;refine yT (zbW t (d1 (itg l h))) ?_;iterate 3 refine yc ?_
 refine ChM.lt 11 ?_ ?_
 ·refine gd ?_ ?_<;>intro hc2
  ·have h14 : (14 : Int) = lesE e h t (d1 (itg l h)) := by rw [← hE]; unfold lsE; rw [if_pos hc2]
   apply yo;refine Ex.mo ?_;apply Ex.nil;rw [← h14, ← hT];refine zit.mk [] [] (.inl rfl) (.many (by decide) .nil);all_goals (rfl)
  ·have h14 : subE t (d1 (itg l h)) = lesE e h t (d1 (itg l h)) := by rw [← hE]; unfold lsE; rw [if_neg hc2]
   apply yr;rw [← h14, ← hT];refine zit.mk [] [] (.inl rfl) (.many (by decide) .nil);all_goals (rfl)
 ·refine gd ?_ ?_<;>intro hc3
  ·have h14 : (14 : Int) = lesE e h t (d1 (itg l h)) := by rw [← hE]; unfold lsE; rw [if_pos hc3]
   apply yo;refine Ex.mo ?_;apply Ex.nil;rw [← h14, ← hT];refine zit.mk [] [] (.inl rfl) (.many (by decide) .nil);all_goals (rfl)
  ·have h14 : subE t (d1 (itg l h)) = lesE e h t (d1 (itg l h)) := by rw [← hE]; unfold lsE; rw [if_neg hc3]
   apply yr;rw [← h14, ← hT];refine zit.mk [] [] (.inl rfl) (.many (by decide) .nil);all_goals (rfl)
set_option maxHeartbeats 4000000 in
theorem zdo (l : List Ite) (s : Sgm) (u : Tm) (k : Int) (hs : SgOk k l s) (hP : ∀ x ∈ l, itF x = 0) (hl : l.length <= 1000000) : Fn Tryz.prog 208 [.agg [itsA l], smA s, tmA u] (.tup [tmA (cnV u l s), iv (cnE u l s)]) := by
 have f0 := hs.f0;have ft := hs.ft;have tl := hs.tl;have hrl := zo9 hs;have hsm := ztI (s := s) hP;have hlf : s.Left < l.length := by rcases hs.lf with h | h <;> omega
 have hrt : s.Right < l.length := by rcases hs.rt with h | h <;> omega
 have hSum : Fn Tryz.prog 224 [tmsA (drL ((itR l s).take (itR l s).length))] (.tup [tmA (cnA l s).1, iv (cnA l s).2]) := by
  rw [List.take_length, ← hsm.1, ← hsm.2]; exact zkB (drL (itR l s)) (by unfold drL; rw [List.length_map]; omega)
 have hd0 : [] = drL ((itR l s).take 0) := by rw [List.take_zero]; rfl
 refine Fn.go Tryz.func208 Tryz.ntmps208 (fun g w d => ?_);apply yg;iterate 3 refine zbs ?_
 refine zD ?_;refine ya ?_;apply yK;refine yx ?_;iterate 2 apply yn
 refine X.imp (yP tmE 25 2 8 200 rfl rfl) ?_;apply yo;iterate 6 refine ya ?_
 refine zaH (zco rfl rfl rfl ziw zkj (fun _ => rfl) (by omega) (by omega) (by omega)) rfl ?_;refine gq ?_;refine yZ (ι := Nat) (fun (n : Nat) => [(3, .ptr 3 0 0 0), (4, .ptr 4 0 0 0), (5, .ptr 5 0 0 0), (6, .ptr 6 0 0 0), (8, .own 200), (20, itsA (itR l s)), (21, iv (itR l s).length), (22, iv (n : Int))]) (fun (n : Nat) => [(3, .box [itsA l] 240), (4, .box (smE s) 232), (5, .box (tmE u) 25), (6, .box [iv 0, iv 0] 25), (200, .row tmE (drL ((itR l s).take n)) 25 2)]) (fun (n : Nat) => n <= (itR l s).length) (fun (n : Nat) => (itR l s).length - n) 0 (fun n hk => ?_);refine gd ?_ ?_<;>intro hc1
 ·obtain ⟨x, hx⟩ : ∃ x, (itR l s)[n]? = some x := ⟨_, lgg (by omega)⟩;have hx2 : (itR l s)[(n : Int).toNat]? = some x := by simpa using hx
  have hst := zng hx;have hdl : (drL ((itR l s).take n)).length <= 1000000 := by unfold drL; simp; omega
  refine gq ?_;refine yL tmE [⟨_, _⟩] ?_;refine gq ?_;refine yD (n + 1)
 ·have hn : n = (itR l s).length := by omega
  subst hn;apply X.exit;apply yn;refine X.imp (Imp.freeze (k := 200) rfl) ?_;refine gq ?_;refine yb hSum ?_;refine gd ?_ ?_<;>intro hc2
  ·have hE := (zqV (u := u) hc2).1;have hV := (zqV (u := u) hc2).2;apply yn;refine zn [39,40] [0,0,1,7] mo ?_;(iterate 2 refine yc ?_);refine ChM.lt 1 ?_ ?_
   ·refine gq ?_;refine yI ty25 ?_ ?_;all_goals (first | (rw [hE]; done) | (rw [hV]; rfl) | (rw [hE]; rfl) | (rw [hV]; done))
   ·refine gq ?_;refine yI ty25 ?_ ?_;all_goals (first | (rw [hE]; done) | (rw [hV]; rfl) | (rw [hE]; rfl) | (rw [hV]; done))
  have hcl := zrV hc2;refine gq ?_;refine zaC [(2000000, 12), (2000001, 11), (2000002, 3)] (zaX l s.Left (cnA l s).2 (cnA l s).1 226 (fun x => x.After) zcS hlf) ?_;refine gq ?_;refine zaC [(2000000, 12), (2000001, 11), (2000002, 3)] (zaX l s.Right (lesE (cnA l s).2 s.Left (cnA l s).1 (itg l s.Left).After) (lesT (cnA l s).2 s.Left (cnA l s).1 (itg l s.Left).After) 227 (fun x => x.Before) zcT hrt) ?_;refine gd ?_ ?_<;>intro hc3
  ·have h0 : ¬ (cnC l s).2 = 0 := by rw [hcl.1]; exact hc3
   have hE := (zqW (u := u) h0).1;have hV := (zqW (u := u) h0).2;rw [hcl.1] at hE;apply yn;refine zn [52,53] [0,0,1,7] mo ?_;(iterate 2 refine yc ?_);refine ChM.lt 1 ?_ ?_
   ·refine gq ?_;refine yI ty25 ?_ ?_;all_goals (first | (rw [hE]; done) | (rw [hV]; rfl) | (rw [hE]; rfl) | (rw [hV]; done))
   ·refine gq ?_;refine yI ty25 ?_ ?_;all_goals (first | (rw [hE]; done) | (rw [hV]; rfl) | (rw [hE]; rfl) | (rw [hV]; done))
  have h0 : (cnC l s).2 = 0 := by rw [hcl.1]; exact hc3
  have hE := (zqX (u := u) h0).1;have hV := (zqX (u := u) h0).2;rw [hcl.2 h0] at hE hV;refine gq ?_;refine yb (zkF (lesT (lesE (cnA l s).2 s.Left (cnA l s).1 (itg l s.Left).After) s.Right (lesT (cnA l s).2 s.Left (cnA l s).1 (itg l s.Left).After) (itg l s.Right).Before) u) ?_;refine gq ?_;refine yI ty25 ?_ ?_;all_goals (first | (rw [hE]; done) | (rw [hV]; rfl) | (rw [hE]; rfl) | (rw [hV]; done))
set_option maxHeartbeats 4000000 in
theorem zbc (m : Mn) (k : Int) (l : List Ite) (h0 : -9223372036854775808 <= k) (h1 : k <= 9223372036854775807) (hl : l.length <= 1000000) : Fn Tryz.prog 175 [mnA m, iv k, itsA l] (.tup [smsA (segV m k l), iv (segE m k l)]) := by
 have hok := zk8 k l;have hq0 := ztJ (unT m k) l (sgs0 l (bds k l));have hbl := zne k l (bds k l).length;rw [List.take_length] at hbl;refine Fn.go Tryz.func175 Tryz.ntmps175 (fun g w d => ?_);refine gq ?_;refine yb (zeU m k h0 h1) ?_;refine gd ?_ ?_<;>intro hc1
 ·have hE : segE m k l = unE m k := by unfold segE; rw [if_neg hc1]
  have hV : [] = segV m k l := by unfold segV; rw [if_neg (by rw [hE]; exact hc1)]
  apply yg;refine zk ?_;refine X.ret ?_;refine RetQ.imp (yd (ts := [(6, smsA []), (7, iv (unE m k))]) (hs := [])) ?_;refine yj ?_ ?_;all_goals (first | (rw [← hV]; done) | (rw [hE]; done) | exact congrArg (fun z => smsA z) hV | (rw [← hV]; rfl) | (rw [hE]; rfl))
 have hU : unE m k = 0 := hc1;refine gq ?_;refine yb (zeh l (by omega)) ?_;refine gd ?_ ?_<;>intro hc2
 ·have hE : segE m k l = ckIE l := by unfold segE; rw [if_pos hU, if_neg hc2]
  have hV : [] = segV m k l := by unfold segV; rw [if_neg (by rw [hE]; exact hc2)]
  apply yg;refine zk ?_;refine X.ret ?_;refine RetQ.imp (yd (ts := [(6, smsA []), (7, iv (ckIE l))]) (hs := [])) ?_;refine yj ?_ ?_;all_goals (first | (rw [← hV]; done) | (rw [hE]; done) | exact congrArg (fun z => smsA z) hV | (rw [← hV]; rfl) | (rw [hE]; rfl))
 have hK : ckIE l = 0 := hc2;have hP := zjT hK;have hEE : segE m k l = segX (unT m k) l (sgs0 l (bds k l)) := by unfold segE; rw [if_pos hU, if_pos hK]
 refine gq ?_;refine zaC [(39, 39)] (zdf l k hl) ?_;refine gq ?_
 refine yZ (ι := Nat) (fun (n : Nat) => [(8, .ptr 8 0 0 0), (12, .ptr 12 0 0 0), (13, .own 39), (40, iv (sgs0 l (bds k l)).length), (41, iv (n : Int))]) (fun (n : Nat) => [(8, .box (tmE (unT m k)) 25), (12, .box [itsA l] 240), (39, .row smE (sgP (unT m k) l (sgs0 l (bds k l)) n) 232 7)]) (fun (n : Nat) => n <= (sgs0 l (bds k l)).length /\ segX (unT m k) l (sgs0 l (bds k l)) = segX (unT m k) l ((sgs0 l (bds k l)).drop n)) (fun (n : Nat) => (sgs0 l (bds k l)).length - n) 0 (fun n hk => ?_) (hJ := by
  exact ⟨by omega, rfl⟩) (h0 := by
  exact yf)
 obtain ⟨hk1, hk2⟩ := hk;refine gd ?_ ?_<;>intro hc3
 ·obtain ⟨s, hs⟩ : ∃ s, (sgs0 l (bds k l))[n]? = some s := ⟨_, lgg (by omega)⟩;have hso := hok.all s (List.mem_of_getElem? hs);have hpl := zpa (unT m k) l (sgs0 l (bds k l)) n;have hsa := zrW (u := unT m k) (l := l) hs;have hsn := hsa.1;have hst := hsa.2;have hsn2 : (sgP (unT m k) l (sgs0 l (bds k l)) n)[(n : Int).toNat]? = some s := by simpa using hsn
  refine gq ?_;refine zn [15,44,45,46,47,48,49,50,51,52,53] [0,0,0,6,14,0,63,127,255,255,0,1535,4095] mo ?_;iterate 4 refine yc ?_
  refine yc ?_ (hs := by exact zcd rfl rfl hsn2 rfl rfl TyK.h);refine yc ?_;refine yT (zdo l s (unT m k) k hso hP hl) ?_;iterate 3 refine yc ?_
  refine ChM.step rfl rfl rfl (zbl (k := 15) zc25) rfl ?_;refine zd7 9 ⟨[(8, .ptr 8 0 0 0), (12, .ptr 12 0 0 0), (13, .own 39), (40, iv (sgs0 l (bds k l)).length), (41, iv (n : Int)), (14, iv (n : Int)), (15, .ptr 15 0 0 0), (16, iv (cnE (unT m k) l s))], [(8, .box (tmE (unT m k)) 25), (12, .box [itsA l] 240), (39, .row smE (sgP (unT m k) l (sgs0 l (bds k l)) n) 232 7), (15, .box (tmE (cnV (unT m k) l s)) 25)]⟩ (fun Q hQ => ?_) (fun Q hQ => ?_) ?_
  ·refine Ex.mo ?_;refine ya ?_;exact Ex.imp yf hQ
  ·refine Ex.mo ?_;(iterate 2 refine ya ?_);exact Ex.imp yf hQ
  refine gd ?_ ?_<;>intro hc4
  ·have hR := zrX hc4;have hE : segE m k l = cnE (unT m k) l s := by rw [hEE, hk2, zhe hs, hR, if_neg hc4]
   have hV : [] = segV m k l := by unfold segV; rw [if_neg (by rw [hE]; exact hc4)]
   apply yg;refine zk ?_;refine X.ret ?_;refine RetQ.imp (yd (ts := [(6, smsA []), (7, iv (cnE (unT m k) l s))]) (hs := [])) ?_;refine yj ?_ ?_;all_goals (first | (rw [← hV]; done) | (rw [hE]; done) | exact congrArg (fun z => smsA z) hV | (rw [← hV]; rfl) | (rw [hE]; rfl))
  have hcE : cnE (unT m k) l s = 0 := hc4;apply yr;apply yn;apply yg;iterate 6 refine ya ?_
  refine ExF.at 6 ?_;refine yC ?_;iterate 3 refine ExF.gi ?_
  refine ym ?_;refine gd ?_ ?_<;>intro hc5
  ·have hR : segR (unT m k) l s = 14 := by unfold segR; rw [if_pos hcE, if_pos hc5]
   have hE : segE m k l = 14 := by rw [hEE, hk2, zhe hs, hR, if_neg (by decide)]
   have hV : [] = segV m k l := by unfold segV; rw [if_neg (by rw [hE]; decide)]
   apply yg;refine zq ?_;refine X.ret ?_;refine RetQ.imp (yd (ts := [(6, smsA []), (7, iv 14)]) (hs := [])) ?_;refine yj ?_ ?_;all_goals (first | (rw [← hV]; done) | (rw [hE]; done) | exact congrArg (fun z => smsA z) hV | (rw [← hV]; rfl) | (rw [hE]; rfl))
  have hR : segR (unT m k) l s = 0 := by unfold segR; rw [if_pos hcE, if_neg (by intro hh; rcases hc5 with h | h; (rw [hh.1] at h; cases h); exact hh.2 h)]
  apply yr;apply yo;iterate 5 refine ya ?_
  refine Ex.mo (hs := zr (n := 2) s (segW (unT m k) l s) rfl rfl hsn (fun _ => rfl) (by decide) rfl rfl rfl (by decide) rfl rfl rfl TyK.h) ?_;refine gq ?_
  refine yD (n + 1) (hJ := by
   exact ⟨by omega, by rw [hk2, zhe hs, if_pos hR]⟩) (hI := yf)
 ·have hn : n = (sgs0 l (bds k l)).length := by omega
  subst hn;have hE : segE m k l = 0 := by rw [hEE, hk2, List.drop_length]; rfl
  have hV : sgP (unT m k) l (sgs0 l (bds k l)) (sgs0 l (bds k l)).length = segV m k l := by unfold segV; rw [if_pos hE, zpb]
  apply X.exit;apply yg;refine zk ?_;refine X.ret ?_;refine RetQ.imp (Imp.freeze (k := 39) rfl) ?_;refine yj ?_ ?_;all_goals (first | (rw [← hV]; done) | (rw [hE]; done) | exact congrArg (fun z => smsA z) hV | (rw [← hV]; rfl) | (rw [hE]; rfl))
end Go.Rse
namespace Go.Rse
open Go Go.Proofs
def sumA : Tm -> List Tm -> Tm
 | t, [] => t
 | t, d :: r => sumA (addV t d) r
end Go.Rse
namespace Go.Rse
open Go Go.Proofs
attribute [local irreducible] Pur yw yy Ex X Fn Imp LeV LeB FnO It yz FnW FnOW
theorem zjK (d : Tm) : ∀ (L : List Tm) (t : Tm), smF t (L ++ [d]) = smF t L ++ [addV (sumA t L) d]
 | [], t => rfl
 | x :: r, t => by
  show addV t x :: smF (addV t x) (r ++ [d]) = _;rw [zjK d r]; rfl
theorem zh1 (d : Tm) : ∀ (L : List Tm) (t : Tm), sumA t (L ++ [d]) = addV (sumA t L) d
 | [], t => rfl
 | x :: r, t => by
  show sumA (addV t x) (r ++ [d]) = _;rw [zh1 d r]; rfl
theorem ziP : ∀ (L : List Tm) (t : Tm), (smF t L).length = L.length
 | [], t => rfl
 | x :: r, t => by simp only [smF, List.length_cons, ziP r]
def fsP (l : List Ite) (n : Nat) : List Tm := smF ⟨0, 1⟩ ((drL l).take n)
def fsA (l : List Ite) (n : Nat) : Tm := sumA ⟨0, 1⟩ ((drL l).take n)
theorem ztK (l : List Ite) : [] = fsP l 0 := by unfold fsP; rw [List.take_zero]; rfl
theorem ztL (l : List Ite) : [iv 0, iv 1] = tmE (fsA l 0) := by unfold fsA; rw [List.take_zero]; rfl
theorem zw7 {l : List Ite} {n : Nat} {x : Ite} (h : l[n]? = some x) : tmE (addV (fsA l n) x.Dur) = tmE (fsA l (n + 1)) /\ fsP l n ++ [addV (fsA l n) x.Dur] = fsP l (n + 1) /\ (fsP l n).length <= n := by
 have hd : (drL l)[n]? = some x.Dur := by unfold drL; rw [List.getElem?_map, h]; rfl
 have ht : (drL l).take (n + 1) = (drL l).take n ++ [x.Dur] := by rw [List.take_add_one, hd]; rfl
 have e1 : fsA l (n + 1) = addV (fsA l n) x.Dur := by unfold fsA; rw [ht, zh1]
 refine ⟨by rw [e1], ?_, ?_⟩
 ·unfold fsP fsA; rw [ht, zjK]
 ·unfold fsP; rw [ziP, List.length_take]; omega
theorem zpc (l : List Ite) : fsP l l.length = fsL l := by
 unfold fsP fsL; rw [List.take_of_length_le (by unfold drL; simp)]
theorem ziQ (l : List Ite) : (fsL l).length = l.length := by unfold fsL; rw [ziP]; unfold drL; simp
def laP (a : Tm) (L : List Tm) (n : Nat) : List Tm := a :: (((L.take n).filter fun t => decide (subE a t = 0)).map fun t => subV a t)
theorem ztM (a : Tm) (L : List Tm) : [a] = laP a L 0 := by unfold laP; rw [List.take_zero]; rfl
theorem ztN {a : Tm} {L : List Tm} {n : Nat} {t : Tm} (h : L[n]? = some t) : (subE a t = 0 -> laP a L n ++ [subV a t] = laP a L (n + 1)) /\ (¬ subE a t = 0 -> laP a L n = laP a L (n + 1)) /\ (laP a L n).length <= n + 1 := by
 unfold laP;have ht : L.take (n + 1) = L.take n ++ [t] := by rw [List.take_add_one, h]; rfl
 refine ⟨fun h0 => ?_, fun h0 => ?_, ?_⟩
 ·rw [ht, List.filter_append]; simp [h0]
 ·rw [ht, List.filter_append]; simp [h0]
 ·simp only [List.length_cons, List.length_map];have := List.length_filter_le (fun t => decide (subE a t = 0)) (L.take n);rw [List.length_take] at this; omega
theorem zpd {l : List Ite} (h : (fsL l).length = 0) : [] = lasL l := by
 have : fsL l = [] := List.eq_nil_of_length_eq_zero h;unfold lasL; rw [this]; rfl
theorem zpe {l : List Ite} {a : Tm} (h : (fsL l)[(fsL l).length - 1]? = some a) : laP a ((fsL l).take (((fsL l).length : Int) - 1).toNat) ((fsL l).take (((fsL l).length : Int) - 1).toNat).length = lasL l := by
 rw [show (((fsL l).length : Int) - 1).toNat = (fsL l).length - 1 by omega];have h1 : (fsL l).getLast? = some a := by rw [List.getLast?_eq_getElem?]; exact h
 unfold lasL; rw [h1];unfold laP;rw [List.take_length, List.dropLast_eq_take]
structure SgB (n : Nat) (s : Sgm) : Prop where
 f0 : 0 <= s.From
 ft : s.From <= s.To
 tn : s.To <= n
 lf : s.Left < n
 rt : s.Right < n
theorem SgOk.b {k : Int} {l : List Ite} {s : Sgm} (h : SgOk k l s) : SgB l.length s := ⟨h.f0, h.ft, h.tl, by have := h.ft; have := h.tl; rcases h.lf with h | h <;> omega, by rcases h.rt with h | h <;> omega⟩
attribute [local irreducible] fsL fsP fsA lasL laP cmpV addV addE subV subE drL
theorem zej (l : List Ite) (hl : l.length <= 1000000) : Fn Tryz.prog 242 [itsA l] (tmsA (fsL l)) := by
 have h00 := ztK l;have h01 := ztL l;refine Fn.go Tryz.func242 Tryz.ntmps242 (fun g w d => ?_);apply yg;refine ya ?_;apply yK;refine yx ?_;apply yn;refine X.imp (yP tmE 25 2 3 200 rfl rfl) ?_;refine gq ?_
 refine yZ (ι := Nat) (fun (n : Nat) => [(3, .own 200), (4, .ptr 4 0 0 0), (8, itsA l), (9, iv l.length), (10, iv (n : Int))]) (fun (n : Nat) => [(4, .box (tmE (fsA l n)) 25), (200, .row tmE (fsP l n) 25 2)]) (fun (n : Nat) => n <= l.length) (fun (n : Nat) => l.length - n) 0 (fun n hk => ?_) (h0 := by
  exact Imp.of (by (repeat' (first | exact True.intro | (refine And.intro ⟨_, rfl, ?_⟩ ?_; (first | exact LeV.refl _ | exact LeV.any _ | exact LeB.refl _ | (refine LeV.eq ?_; simp; done) | (refine LeV.eq ?_; congr 1; omega) | (refine LeV.eq ?_; dsimp only; congr 1; omega) | (refine LeV.eq (congrArg (AV.int _) ?_); omega) | exact LeV.nils _ | exact LeB.row (by assumption) | (refine LeB.eq ?_; congr 1; omega) | (refine LeB.eq ?_; congr 1; simp only [cond_true, cond_false]; omega)))))) (by (repeat' (first | exact True.intro | (refine And.intro ⟨_, rfl, ?_⟩ ?_; (first | exact LeB.refl _ | exact LeB.row (by assumption) | exact LeB.eq (congrArg (fun z => Blk.box z 25) h01) | exact LeB.eq (congrArg (fun z => Blk.box z 25) hs1)))))))
 refine gd ?_ ?_<;>intro hc1
 ·obtain ⟨x, hx⟩ : ∃ x, l[n]? = some x := ⟨_, lgg (by omega)⟩;have hx2 : l[(n : Int).toNat]? = some x := by simpa using hx
  have hs3 := zw7 hx;obtain ⟨hs1, hs2, hs4⟩ := hs3;refine gq ?_;refine yb (zbe (fsA l n) x.Dur) ?_;refine gq ?_;refine yL tmE [addV (fsA l n) x.Dur] ?_;refine gq ?_;refine yD (n + 1) (hI := Imp.of (by (repeat' (first | exact True.intro | (refine And.intro ⟨_, rfl, ?_⟩ ?_; (first | exact LeV.refl _ | exact LeV.any _ | exact LeB.refl _ | (refine LeV.eq ?_; simp; done) | (refine LeV.eq ?_; congr 1; omega) | (refine LeV.eq ?_; dsimp only; congr 1; omega) | (refine LeV.eq (congrArg (AV.int _) ?_); omega) | exact LeV.nils _ | exact LeB.row (by assumption) | (refine LeB.eq ?_; congr 1; omega) | (refine LeB.eq ?_; congr 1; simp only [cond_true, cond_false]; omega)))))) (by (repeat' (first | exact True.intro | (refine And.intro ⟨_, rfl, ?_⟩ ?_; (first | exact LeB.refl _ | exact LeB.row (by assumption) | exact LeB.eq (congrArg (fun z => Blk.box z 25) h01) | exact LeB.eq (congrArg (fun z => Blk.box z 25) hs1)))))))
 ·have hn : n = l.length := by omega
  subst hn;have he := zpc l;apply X.exit;apply yn;refine X.imp (Imp.freeze (k := 200) rfl) ?_;refine gq ?_;all_goals (first | exact congrArg (fun z => tmsA z) he | (rw [he]; done))
theorem zeX (l : List Ite) (hl : l.length <= 1000000) : Fn Tryz.prog 243 [itsA l] (tmsA (lasL l)) := by
 have hfl := ziQ l;refine Fn.go Tryz.func243 Tryz.ntmps243 (fun g w d => ?_);refine gq ?_;refine yb (zej l hl) ?_;refine gd ?_ ?_<;>intro hc1
 ·have he := zpd (l := l) (by omega);apply yg;refine yx ?_;refine X.ret ?_;refine RetQ.imp (yd (ts := [(2, tmsA [])]) (hs := [])) ?_;refine gq ?_;all_goals (first | exact congrArg (fun z => tmsA z) he | (rw [← he]; done))
 obtain ⟨a, ha⟩ : ∃ a, (fsL l)[(fsL l).length - 1]? = some a := ⟨_, lgg (by omega)⟩;have ha2 : (fsL l)[((fsL l).length - 1 : Int).toNat]? = some a := by rw [show ((fsL l).length - 1 : Int).toNat = (fsL l).length - 1 by omega]; exact ha
 have h00 := ztM a ((fsL l).take (((fsL l).length : Int) - 1).toNat);have htk : ((fsL l).take (((fsL l).length : Int) - 1).toNat).length <= l.length := by rw [List.length_take]; omega
 refine gq ?_;refine yL tmE [a] ?_;refine gq ?_
 first
  | refine zaH (zc6 rfl rfl rfl sl54 ty25 (by omega) (by omega)) rfl ?_
  | refine zaH (zdM rfl rfl sl54 ty25 (fun _ => rfl) (by omega) (by omega)) rfl ?_
 refine gq ?_
 refine yZ (ι := Nat) (fun (n : Nat) => [(4, .ptr 4 0 0 0), (5, .own 22), (27, tmsA ((fsL l).take (((fsL l).length : Int) - 1).toNat)), (28, iv ((fsL l).take (((fsL l).length : Int) - 1).toNat).length), (29, iv (n : Int))]) (fun (n : Nat) => [(4, .box (tmE a) 25), (22, .row tmE (laP a ((fsL l).take (((fsL l).length : Int) - 1).toNat) n) 25 2)]) (fun (n : Nat) => n <= ((fsL l).take (((fsL l).length : Int) - 1).toNat).length) (fun (n : Nat) => ((fsL l).take (((fsL l).length : Int) - 1).toNat).length - n) 0 (fun n hk => ?_) (h0 := by
  exact yf)
 refine gd ?_ ?_<;>intro hc2
 ·obtain ⟨t, ht⟩ : ∃ t, ((fsL l).take (((fsL l).length : Int) - 1).toNat)[n]? = some t := ⟨_, lgg (by omega)⟩;have ht2 : ((fsL l).take (((fsL l).length : Int) - 1).toNat)[(n : Int).toNat]? = some t := by simpa using ht
  have hs3 := ztN (a := a) ht;obtain ⟨hs1, hs2, hs4⟩ := hs3;refine gq ?_;refine yb (zbW a t) ?_;refine gd ?_ ?_<;>intro hc3
  ·have hs1 := hs1 hc3;refine gq ?_;refine yL tmE [subV a t] ?_;refine gq ?_;refine yD (n + 1) (hI := yf)
  ·have hs2 := hs2 hc3;refine gq ?_;refine yD (n + 1) (hI := yf)
 ·have hn : n = ((fsL l).take (((fsL l).length : Int) - 1).toNat).length := by omega
  subst hn;have he := zpe ha;apply X.exit;apply yn;refine X.imp (Imp.freeze (k := 22) rfl) ?_;refine gq ?_;all_goals (first | exact congrArg (fun z => tmsA z) he | (rw [he]; done))
theorem zaF (l : List Ite) (k : Int) (u : Tm) (b : Nat) (x : Ite) : Fn Tryz.prog 240 [.ept (fun _ : Unit => [.sl itE l, iv k, iv u.N, iv u.D, .val (.map (some b))]) () 0, itA x] (.bool (lgQ u x)) := by
 refine Fn.go Tryz.func240 Tryz.ntmps240 (fun g w d => ?_);refine gq ?_;refine zn [5,6,7,8,9,10,11,12,13,14,15,16] [0,1,0,4,12,28,63,127,255,255,511,2047] mo ?_;iterate 6 refine yc ?_
 refine yT (zgY x.Dur u) ?_;iterate 5 refine yc ?_
 refine yM ?_;refine gq ?_;all_goals (rfl)
theorem zay (l : List Ite) (k : Int) (u : Tm) (b : Nat) (S : List Tm) (t : Tm) (hS : S.length <= 2000000) : Fn Tryz.prog 241 [.ept (fun _ : Unit => [.sl itE l, iv k, iv u.N, iv u.D, .val (.map (some b))]) () 0, tmsA S, tmA t] (.bool (rcQ u S t)) := by
 refine Fn.go Tryz.func241 Tryz.ntmps241 (fun g w d => ?_);refine gq ?_;refine zn [7,9,10,11,12,13,14,15,16,17] [0,0,2,6,14,31,63,127,127,0,767,2047] mo ?_;iterate 5 refine yc ?_
 refine yT (zbe t u) ?_;iterate 3 refine yc ?_
 refine ChM.step rfl rfl rfl (zbl (k := 7) zc25) rfl ?_;refine ChM.lt 8 ?_ ?_
 ·refine Ex.mo ?_;refine ya ?_;apply yK;iterate 2 refine ya ?_
  refine ExF.at 2 ?_;refine gq ?_;refine ExF.cg (zm S (addV t u) (by omega)) ?_;refine ym ?_;refine gq ?_;all_goals (rfl)
 ·refine Ex.mo ?_;iterate 2 refine ya ?_
  apply yK;iterate 2 refine ya ?_
  refine ExF.at 2 ?_;refine gq ?_;refine ExF.cg (zm S (addV t u) (by omega)) ?_;refine ym ?_;refine gq ?_;all_goals (rfl)
end Go.Rse
