/-
  Walks: the count of a segment, the segments of a level.
-/
import Derived.Test.YtkpbljifckjeoaaGreatDoorQJLvl2
import Derived.Test.YtkpbljifckjeoaaGreatDoorQLogB
import Derived.Test.YtkpbljifckjeoaaGreatDoorQJLvl1
import Derived.Test.YtkpbljifckjeoaaGreatDoorQJWri3
set_option linter.unusedSimpArgs false
set_option linter.unusedVariables false
namespace Go.Rse
open Go Go.Proofs
attribute [local irreducible] Pur yC yE Ex X Fn Imp LeV LeB FnO It yJ
def lesE (e h : Int) (t d : Tm) : Int := if e = 0 /\ 0 <= h then lsE t d else e
def lesT (e h : Int) (t d : Tm) : Tm := if e = 0 /\ 0 <= h then subV t d else t
theorem zkk {t d : Tm} {h : Int} : (cn1 t h d).2 = lesE 0 h t d /\ ((cn1 t h d).2 = 0 -> (cn1 t h d).1 = lesT 0 h t d) := by
 unfold cn1 lesE lesT;by_cases h0 : h < 0
 ·have n : ¬ ((0 : Int) = 0 /\ 0 <= h) := by omega
  rw [if_pos h0, if_neg n, if_neg n]; exact ⟨rfl, fun _ => rfl⟩
 ·have n : (0 : Int) = 0 /\ 0 <= h := ⟨rfl, by omega⟩;rw [if_neg h0, if_pos n, if_pos n];by_cases h1 : lsE t d = 0
  ·rw [if_pos h1]; exact ⟨h1.symm, fun _ => rfl⟩
  ·rw [if_neg h1]; exact ⟨rfl, fun h => absurd h h1⟩
theorem zp5 {e h : Int} {t d : Tm} (he : ¬ e = 0) : lesE e h t d = e /\ lesT e h t d = t := by
 unfold lesE lesT; rw [if_neg (fun x => he x.1), if_neg (fun x => he x.1)]; exact ⟨rfl, rfl⟩
theorem zp6 {l : List Ite} {s : Sgm} (h : (cnA l s).2 = 0) :
 (cnC l s).2 = lesE (lesE (cnA l s).2 s.Left (cnA l s).1 (itg l s.Left).After) s.Right (lesT (cnA l s).2 s.Left (cnA l s).1 (itg l s.Left).After) (itg l s.Right).Before ∧
 ((cnC l s).2 = 0 -> (cnC l s).1 = lesT (lesE (cnA l s).2 s.Left (cnA l s).1 (itg l s.Left).After) s.Right (lesT (cnA l s).2 s.Left (cnA l s).1 (itg l s.Left).After) (itg l s.Right).Before) := by
 have hB : cnB l s = cn1 (cnA l s).1 s.Left (itg l s.Left).After := by unfold cnB; rw [if_pos h]
 have hC : cnC l s = if (cnB l s).2 = 0 then cn1 (cnB l s).1 s.Right (itg l s.Right).Before else (tmZ, (cnB l s).2) := rfl
 rw [hC, hB, h];obtain ⟨a1, a2⟩ := zkk (t := (cnA l s).1) (d := (itg l s.Left).After) (h := s.Left);by_cases h0 : (cn1 (cnA l s).1 s.Left (itg l s.Left).After).2 = 0
 ·rw [if_pos h0, ← a1, h0, ← a2 h0];exact zkk
 ·rw [if_neg h0, ← a1, (zp5 h0).1];exact ⟨rfl, fun h => absurd h h0⟩
theorem zpg {u : Tm} {l : List Ite} {s : Sgm} (h : ¬ (cnA l s).2 = 0) : cnE u l s = (cnA l s).2 /\ cnV u l s = tmZ := by
 have hB : cnB l s = (tmZ, (cnA l s).2) := by unfold cnB; rw [if_neg h]
 have hC : cnC l s = (tmZ, (cnA l s).2) := by unfold cnC; rw [hB, if_neg h]
 unfold cnE cnV; rw [hC, if_neg h, if_neg h]; exact ⟨rfl, rfl⟩
theorem zph {u : Tm} {l : List Ite} {s : Sgm} (h : ¬ (cnC l s).2 = 0) : cnE u l s = (cnC l s).2 /\ cnV u l s = tmZ := by
 unfold cnE cnV; rw [if_neg h, if_neg h]; exact ⟨rfl, rfl⟩
theorem zpi {u : Tm} {l : List Ite} {s : Sgm} (h : (cnC l s).2 = 0) : cnE u l s = divE (cnC l s).1 u /\ cnV u l s = divV (cnC l s).1 u := by
 unfold cnE cnV; rw [if_pos h, if_pos h]; exact ⟨rfl, rfl⟩
theorem zrF {l : List Ite} {s : Sgm} (hl : ∀ x ∈ l, itF x = 0) : sumE (drL (itR l s)) = (cnA l s).2 /\ sumV (drL (itR l s)) = (cnA l s).1 := by
 have hf : ∀ L : List Tm, (∀ t ∈ L, ckT t = 0) -> y5 L = 0 := by
  intro L
  induction L with
  | nil => intro _; rfl
  | cons t r ih => intro h; simp only [y5]; rw [if_pos (h t (by simp))]; exact ih fun x hx => h x (List.mem_cons_of_mem _ hx)
 have h0 : y5 (drL (itR l s)) = 0 := hf _ fun t ht => by
  unfold drL itR at ht;obtain ⟨x, hx, rfl⟩ := List.mem_map.1 ht;exact (zqs (hl x (List.mem_of_mem_drop (List.mem_of_mem_take hx)))).2.1
 unfold sumE sumV cnA; rw [if_pos h0, if_pos h0]; exact ⟨rfl, rfl⟩
theorem zmf {L : List Ite} {k : Nat} {x : Ite} (h : L[k]? = some x) : drL (L.take k) ++ [x.Dur] = drL (L.take (k + 1)) := by
 unfold drL; rw [List.take_add_one, h, List.map_append]; rfl
theorem znE {l : List Ite} {s : Sgm} {k : Int} (hs : SgOk k l s) : ((itR l s).length : Int) = s.To - s.From := by
 unfold itR;have := hs.f0; have := hs.ft; have := hs.tl;rw [List.length_take, List.length_drop]; omega
def sgP (u : Tm) (l : List Ite) (L : List Sgm) (n : Nat) : List Sgm := (L.take n).map (segW u l) ++ L.drop n
theorem zrG (u : Tm) (l : List Ite) (L : List Sgm) : L = sgP u l L 0 := rfl
theorem znF (u : Tm) (l : List Ite) (L : List Sgm) (n : Nat) : (sgP u l L n).length = L.length := by
 unfold sgP; rw [List.length_append, List.length_map, List.length_take, List.length_drop]; omega
theorem zp7 {u : Tm} {l : List Ite} {L : List Sgm} {n : Nat} {s : Sgm} (h : L[n]? = some s) : (sgP u l L n)[n]? = some s /\ (sgP u l L n).set n (segW u l s) = sgP u l L (n + 1) := by
 have hn := (List.getElem?_eq_some_iff.1 h).1;have hl : ((L.take n).map (segW u l)).length = n := by rw [List.length_map, List.length_take]; omega
 constructor
 ·unfold sgP; rw [List.getElem?_append_right (by omega), hl, Nat.sub_self, List.getElem?_drop, Nat.add_zero]; exact h
 ·unfold sgP;rw [List.set_append_right _ _ (by omega), hl, Nat.sub_self, List.drop_eq_getElem_cons hn, List.set_cons_zero, List.take_add_one, h];simp
theorem znG (u : Tm) (l : List Ite) (L : List Sgm) : sgP u l L L.length = L.map (segW u l) := by
 unfold sgP; rw [List.take_length, List.drop_length, List.append_nil]
theorem zp8 {u : Tm} {l : List Ite} {s : Sgm} (h : ¬ cnE u l s = 0) : segR u l s = cnE u l s := by unfold segR; rw [if_neg h]
attribute [local irreducible] sgP subV subE lsE lesE lesT cnA cnC divE divV sumE sumV
theorem zct (x : Ite) : Fn Tryz.prog 226 [itA x] (tmA x.After) := by
 refine Fn.go Tryz.func226 Tryz.ntmps226 (fun g w d => ?_);apply yb;refine yF ?_;refine yD ?_;apply yi;iterate 2 refine ya ?_
 refine Ex.mo ?_;apply Ex.nil;refine X.ret ?_;refine RetQ.ret (.one (.cellA rfl rfl rfl rfl ty25 (LeV.eq ?_)));all_goals (first | rfl | (simp_all; done))
theorem zcu (x : Ite) : Fn Tryz.prog 227 [itA x] (tmA x.Before) := by
 refine Fn.go Tryz.func227 Tryz.ntmps227 (fun g w d => ?_);apply yb;refine yF ?_;refine yD ?_;apply yi;iterate 2 refine ya ?_
 refine Ex.mo ?_;apply Ex.nil;refine X.ret ?_;refine RetQ.ret (.one (.cellA rfl rfl rfl rfl ty25 (LeV.eq ?_)));all_goals (first | rfl | (simp_all; done))
theorem zaQ (l : List Ite) (h e : Int) (t : Tm) (fp : FuncId) (d1 : Ite -> Tm) (hf : ∀ x, Fn Tryz.prog fp [itA x] (tmA (d1 x))) (hh : h < l.length) : FnO Tryz.prog 225 [iv h, .fn fp [], .ptr 2000000 0 0 0, .ptr 2000001 0 0 0, .ptr 2000002 0 0 0] [(2000000, .box [iv e] 28), (2000001, .box (tmE t) 25), (2000002, .box [itsA l] 240)] [2000000, 2000001, 2000002] (.tup []) [(2000000, .box [iv (lesE e h t (d1 (itg l h)))] 28), (2000001, .box (tmE (lesT e h t (d1 (itg l h)))) 25), (2000002, .box [itsA l] 240)] := by
 refine FnO.introX (ts := [(0, iv h), (1, .fn fp []), (2, .ptr 2000000 0 0 0), (3, .ptr 2000001 0 0 0), (4, .ptr 2000002 0 0 0)]) (rv := []) (n := 27) (cs := [.ptr 2000000 0 0 0, .ptr 2000001 0 0 0, .ptr 2000002 0 0 0]) (by kernel_rfl) Tryz.func225 rfl Tryz.ntmps225 rfl rfl (by simp) rfl rfl rfl rfl (fun g w d vs => ?_);apply yd;apply yb;iterate 2 refine ya ?_
 refine ExF.at 2 ?_;refine yG ?_;iterate 2 refine ExF.gi ?_
 refine yH ?_;refine ye ?_;refine yl rfl ?_ ?_<;>intro hc1
 ·have hE : e = lesE e h t (d1 (itg l h)) := by unfold lesE; rw [if_neg (by omega)]
  have hT : t = lesT e h t (d1 (itg l h)) := by unfold lesT; rw [if_neg (by omega)]
  refine X.ret ?_;rw [← hE, ← hT];refine zhC.mk [] [] (.inr rfl) (.many (by decide) .nil);all_goals (rfl)
 have hE : lsE t (d1 (itg l h)) = lesE e h t (d1 (itg l h)) := by unfold lesE; rw [if_pos (by omega)]
 have hT : subV t (d1 (itg l h)) = lesT e h t (d1 (itg l h)) := by unfold lesT; rw [if_pos (by omega)]
 apply yf;apply yd;refine zz [13,14,15,16,17,18,19,20,21,22,23,24] [0,0,0,4,0,28,60,126,255,511,1023,1023,2047,8191] mo ?_;iterate 7 refine yk ?_
 refine y9 (hf (itg l h)) ?_;refine y9 (zbH t (d1 (itg l h))) ?_;iterate 3 refine yk ?_
 refine ChM.lt 11 ?_ ?_
 ·iterate 2 refine Ex.mo ?_
  apply yi;refine yg ?_;refine yl rfl ?_ ?_<;>intro hc2
  ·have h14 : (14 : Int) = lesE e h t (d1 (itg l h)) := by rw [← hE]; unfold lsE; rw [if_pos hc2]
   apply yc;refine Ex.mo ?_;apply Ex.nil;rw [← h14, ← hT];refine zhC.mk [] [] (.inl rfl) (.many (by decide) .nil);all_goals (rfl)
  ·have h14 : subE t (d1 (itg l h)) = lesE e h t (d1 (itg l h)) := by rw [← hE]; unfold lsE; rw [if_neg hc2]
   apply yf;rw [← h14, ← hT];refine zhC.mk [] [] (.inl rfl) (.many (by decide) .nil);all_goals (rfl)
 ·refine Ex.mo ?_;refine ya ?_;refine Ex.mo ?_;apply yi;refine yg ?_;refine yl rfl ?_ ?_<;>intro hc3
  ·have h14 : (14 : Int) = lesE e h t (d1 (itg l h)) := by rw [← hE]; unfold lsE; rw [if_pos hc3]
   apply yc;refine Ex.mo ?_;apply Ex.nil;rw [← h14, ← hT];refine zhC.mk [] [] (.inl rfl) (.many (by decide) .nil);all_goals (rfl)
  ·have h14 : subE t (d1 (itg l h)) = lesE e h t (d1 (itg l h)) := by rw [← hE]; unfold lsE; rw [if_neg hc3]
   apply yf;rw [← h14, ← hT];refine zhC.mk [] [] (.inl rfl) (.many (by decide) .nil);all_goals (rfl)
set_option maxHeartbeats 4000000 in
theorem zcX (l : List Ite) (s : Sgm) (u : Tm) (k : Int) (hs : SgOk k l s) (hP : ∀ x ∈ l, itF x = 0) (hl : l.length <= 1000000) : Fn Tryz.prog 208 [.agg [itsA l], smA s, tmA u] (.tup [tmA (cnV u l s), iv (cnE u l s)]) := by
 have f0 := hs.f0;have ft := hs.ft;have tl := hs.tl;have hrl := znE hs;have hsm := zrF (s := s) hP;have hlf : s.Left < l.length := by rcases hs.lf with h | h <;> omega
 have hrt : s.Right < l.length := by rcases hs.rt with h | h <;> omega
 have hSum : Fn Tryz.prog 224 [tmsA (drL ((itR l s).take (itR l s).length))] (.tup [tmA (cnA l s).1, iv (cnA l s).2]) := by
  rw [List.take_length, ← hsm.1, ← hsm.2]; exact zjG (drL (itR l s)) (by unfold drL; rw [List.length_map]; omega)
 have hd0 : [] = drL ((itR l s).take 0) := by rw [List.take_zero]; rfl
 refine Fn.go Tryz.func208 Tryz.ntmps208 (fun g w d => ?_);apply yb;iterate 3 refine yF ?_
 refine yD ?_;refine ya ?_;apply yi;refine ye ?_;iterate 2 apply yd
 refine X.imp (ze tmE 25 2 8 200 rfl rfl) ?_;apply yc;iterate 6 refine ya ?_
 refine za0 (zb6 rfl rfl rfl zhF zjq (fun _ => rfl) (by omega) (by omega) (by omega)) rfl ?_;refine yg ?_;apply X.block;refine zl (ι := Nat) (fun (n : Nat) => [(3, .ptr 3 0 0 0), (4, .ptr 4 0 0 0), (5, .ptr 5 0 0 0), (6, .ptr 6 0 0 0), (8, .own 200), (20, itsA (itR l s)), (21, iv (itR l s).length), (22, iv (n : Int))]) (fun (n : Nat) => [(3, .box [itsA l] 240), (4, .box (smE s) 232), (5, .box (tmE u) 25), (6, .box [iv 0, iv 0] 25), (200, .row tmE (drL ((itR l s).take n)) 25 2)]) (fun (n : Nat) => n <= (itR l s).length) (fun (n : Nat) => (itR l s).length - n) 0 (fun n hk => ?_);apply yb;refine ye ?_;apply yd;refine yl rfl ?_ ?_<;>intro hc1
 ·obtain ⟨x, hx⟩ : ∃ x, (itR l s)[n]? = some x := ⟨_, lgg (by omega)⟩;have hx2 : (itR l s)[(n : Int).toNat]? = some x := by simpa using hx
  have hst := zmf hx;have hdl : (drL ((itR l s).take n)).length <= 1000000 := by unfold drL; simp; omega
  apply yf;apply yd;apply X.block;apply yb;iterate 2 refine ya ?_
  refine yD ?_;refine Ex.mo ?_;apply Ex.nil;apply yc;iterate 3 refine ya ?_
  refine yW tmE [⟨_, _⟩] ?_;refine Ex.mo ?_;refine ye ?_;apply yc;refine yg ?_;refine yM (n + 1)
 ·have hn : n = (itR l s).length := by omega
  subst hn;apply X.exit;apply yd;refine X.imp (Imp.freeze (k := 200) rfl) ?_;apply yc;refine ya ?_;refine yj hSum ?_;iterate 3 refine ya ?_
  iterate 2 refine yD ?_
  iterate 2 refine Ex.mo ?_
  apply Ex.nil;apply yd;apply yb;refine yg ?_;refine yl rfl ?_ ?_<;>intro hc2
  ·have hE := (zpg (u := u) hc2).1;have hV := (zpg (u := u) hc2).2;apply yd;refine zz [39,40] [0,0,1,7] mo ?_;(iterate 2 refine yk ?_);refine ChM.lt 1 ?_ ?_
   ·refine Ex.mo ?_;refine ye ?_;refine X.ret ?_;refine za ty25 ?_ ?_;all_goals (first | (rw [hE]; done) | (rw [hV]; rfl) | (rw [hE]; rfl) | (rw [hV]; done))
   ·refine Ex.mo ?_;refine yg ?_;refine X.ret ?_;refine za ty25 ?_ ?_;all_goals (first | (rw [hE]; done) | (rw [hV]; rfl) | (rw [hE]; rfl) | (rw [hV]; done))
  have hcl := zp6 hc2;apply yf;apply yb;iterate 2 refine ya ?_
  apply yi;iterate 3 refine ya ?_
  refine zaA [(2000000, 12), (2000001, 11), (2000002, 3)] (zaQ l s.Left (cnA l s).2 (cnA l s).1 226 (fun x => x.After) zct hlf) ?_;apply yi;iterate 3 refine ya ?_
  refine zaA [(2000000, 12), (2000001, 11), (2000002, 3)] (zaQ l s.Right (lesE (cnA l s).2 s.Left (cnA l s).1 (itg l s.Left).After) (lesT (cnA l s).2 s.Left (cnA l s).1 (itg l s.Left).After) 227 (fun x => x.Before) zcu hrt) ?_;apply Ex.nil;apply yd;apply yb;refine yg ?_;refine yl rfl ?_ ?_<;>intro hc3
  ·have h0 : ¬ (cnC l s).2 = 0 := by rw [hcl.1]; exact hc3
   have hE := (zph (u := u) h0).1;have hV := (zph (u := u) h0).2;rw [hcl.1] at hE;apply yd;refine zz [52,53] [0,0,1,7] mo ?_;(iterate 2 refine yk ?_);refine ChM.lt 1 ?_ ?_
   ·refine Ex.mo ?_;refine ye ?_;refine X.ret ?_;refine za ty25 ?_ ?_;all_goals (first | (rw [hE]; done) | (rw [hV]; rfl) | (rw [hE]; rfl) | (rw [hV]; done))
   ·refine Ex.mo ?_;refine yg ?_;refine X.ret ?_;refine za ty25 ?_ ?_;all_goals (first | (rw [hE]; done) | (rw [hV]; rfl) | (rw [hE]; rfl) | (rw [hV]; done))
  have h0 : (cnC l s).2 = 0 := by rw [hcl.1]; exact hc3
  have hE := (zpi (u := u) h0).1;have hV := (zpi (u := u) h0).2;rw [hcl.2 h0] at hE hV;apply yf;apply yb;iterate 2 refine ya ?_
  refine yj (zjK (lesT (lesE (cnA l s).2 s.Left (cnA l s).1 (itg l s.Left).After) s.Right (lesT (cnA l s).2 s.Left (cnA l s).1 (itg l s.Left).After) (itg l s.Right).Before) u) ?_;iterate 2 refine ya ?_
  refine Ex.mo ?_;refine ye ?_;refine X.ret ?_;refine za ty25 ?_ ?_;all_goals (first | (rw [hE]; done) | (rw [hV]; rfl) | (rw [hE]; rfl) | (rw [hV]; done))
set_option maxHeartbeats 4000000 in
theorem za9 (m : Mn) (k : Int) (l : List Ite) (h0 : -9223372036854775808 <= k) (h1 : k <= 9223372036854775807) (hl : l.length <= 1000000) : Fn Tryz.prog 175 [mnA m, iv k, itsA l] (.tup [smsA (segV m k l), iv (segE m k l)]) := by
 have hok := zkb k l;have hq0 := zrG (unT m k) l (sgs0 l (bds k l));have hbl := zmd k l (bds k l).length;rw [List.take_length] at hbl;refine Fn.go Tryz.func175 Tryz.ntmps175 (fun g w d => ?_);apply yb;refine yF ?_;iterate 2 refine ya ?_
 apply yi;iterate 2 refine ya ?_
 refine yj (zei m k h0 h1) ?_;iterate 3 refine ya ?_
 refine yD ?_;refine Ex.mo ?_;refine ye ?_;apply yd;apply yb;refine yg ?_;refine yl rfl ?_ ?_<;>intro hc1
 ·have hE : segE m k l = unE m k := by unfold segE; rw [if_neg hc1]
  have hV : [] = segV m k l := by unfold segV; rw [if_neg (by rw [hE]; exact hc1)]
  apply yb;refine yo ?_;refine X.ret ?_;refine RetQ.imp (yn (ts := [(6, smsA []), (7, iv (unE m k))]) (hs := [])) ?_;refine yw ?_ ?_;all_goals (first | (rw [← hV]; done) | (rw [hE]; done) | exact congrArg (fun z => smsA z) hV | (rw [← hV]; rfl) | (rw [hE]; rfl))
 have hU : unE m k = 0 := hc1;apply yf;apply yd;apply yb;refine ya ?_;refine yj (zdN l (by omega)) ?_;iterate 5 refine ya ?_
 apply yi;refine yg ?_;refine yl rfl ?_ ?_<;>intro hc2
 ·have hE : segE m k l = ckIE l := by unfold segE; rw [if_pos hU, if_neg hc2]
  have hV : [] = segV m k l := by unfold segV; rw [if_neg (by rw [hE]; exact hc2)]
  apply yb;refine yo ?_;refine X.ret ?_;refine RetQ.imp (yn (ts := [(6, smsA []), (7, iv (ckIE l))]) (hs := [])) ?_;refine yw ?_ ?_;all_goals (first | (rw [← hV]; done) | (rw [hE]; done) | exact congrArg (fun z => smsA z) hV | (rw [← hV]; rfl) | (rw [hE]; rfl))
 have hK : ckIE l = 0 := hc2;have hP := zi0 hK;have hEE : segE m k l = segX (unT m k) l (sgs0 l (bds k l)) := by unfold segE; rw [if_pos hU, if_pos hK]
 apply yf;apply yb;iterate 2 refine ya ?_
 refine yD ?_;refine Ex.mo ?_;apply yi;iterate 2 refine ya ?_
 refine zaA [(39, 39)] (zcP l k hl) ?_;refine ye ?_;apply yd;apply yb;refine yo ?_;apply X.block
 refine zl (ι := Nat) (fun (n : Nat) => [(8, .ptr 8 0 0 0), (12, .ptr 12 0 0 0), (13, .own 39), (40, iv (sgs0 l (bds k l)).length), (41, iv (n : Int))]) (fun (n : Nat) => [(8, .box (tmE (unT m k)) 25), (12, .box [itsA l] 240), (39, .row smE (sgP (unT m k) l (sgs0 l (bds k l)) n) 232 7)]) (fun (n : Nat) => n <= (sgs0 l (bds k l)).length /\ segX (unT m k) l (sgs0 l (bds k l)) = segX (unT m k) l ((sgs0 l (bds k l)).drop n)) (fun (n : Nat) => (sgs0 l (bds k l)).length - n) 0 (fun n hk => ?_) (hJ := by
  exact ⟨by omega, rfl⟩) (h0 := by
  exact yq)
 obtain ⟨hk1, hk2⟩ := hk;apply yb;refine ye ?_;apply yd;refine yl rfl ?_ ?_<;>intro hc3
 ·obtain ⟨s, hs⟩ : ∃ s, (sgs0 l (bds k l))[n]? = some s := ⟨_, lgg (by omega)⟩;have hso := hok.all s (List.mem_of_getElem? hs);have hpl := znF (unT m k) l (sgs0 l (bds k l)) n;have hsa := zp7 (u := unT m k) (l := l) hs;have hsn := hsa.1;have hst := hsa.2;have hsn2 : (sgP (unT m k) l (sgs0 l (bds k l)) n)[(n : Int).toNat]? = some s := by simpa using hsn
  apply yf;apply yd;apply X.block;apply yb;refine yg ?_;apply yd;refine zz [15,44,45,46,47,48,49,50,51,52,53] [0,0,0,6,14,0,63,127,255,255,0,1535,4095] mo ?_;iterate 4 refine yk ?_
  refine yk ?_ (hs := by exact zdp rfl rfl hsn2 rfl rfl TyK.h);refine yk ?_;refine y9 (zcX l s (unT m k) k hso hP hl) ?_;iterate 3 refine yk ?_
  refine ChM.step rfl rfl rfl (zbf (k := 15) zc25) rfl ?_;refine zdG 9 ⟨[(8, .ptr 8 0 0 0), (12, .ptr 12 0 0 0), (13, .own 39), (40, iv (sgs0 l (bds k l)).length), (41, iv (n : Int)), (14, iv (n : Int)), (15, .ptr 15 0 0 0), (16, iv (cnE (unT m k) l s))], [(8, .box (tmE (unT m k)) 25), (12, .box [itsA l] 240), (39, .row smE (sgP (unT m k) l (sgs0 l (bds k l)) n) 232 7), (15, .box (tmE (cnV (unT m k) l s)) 25)]⟩ (fun Q hQ => ?_) (fun Q hQ => ?_) ?_
  ·refine Ex.mo ?_;refine ya ?_;exact Ex.imp yq hQ
  ·refine Ex.mo ?_;(iterate 2 refine ya ?_);exact Ex.imp yq hQ
  apply Ex.nil;apply yd;apply yb;refine yg ?_;refine yl rfl ?_ ?_<;>intro hc4
  ·have hR := zp8 hc4;have hE : segE m k l = cnE (unT m k) l s := by rw [hEE, hk2, zgq hs, hR, if_neg hc4]
   have hV : [] = segV m k l := by unfold segV; rw [if_neg (by rw [hE]; exact hc4)]
   apply yb;refine yo ?_;refine X.ret ?_;refine RetQ.imp (yn (ts := [(6, smsA []), (7, iv (cnE (unT m k) l s))]) (hs := [])) ?_;refine yw ?_ ?_;all_goals (first | (rw [← hV]; done) | (rw [hE]; done) | exact congrArg (fun z => smsA z) hV | (rw [← hV]; rfl) | (rw [hE]; rfl))
  have hcE : cnE (unT m k) l s = 0 := hc4;apply yf;apply yd;apply yb;iterate 6 refine ya ?_
  refine ExF.at 6 ?_;refine yG ?_;iterate 3 refine ExF.gi ?_
  refine yH ?_;refine ye ?_;refine yl rfl ?_ ?_<;>intro hc5
  ·have hR : segR (unT m k) l s = 14 := by unfold segR; rw [if_pos hcE, if_pos hc5]
   have hE : segE m k l = 14 := by rw [hEE, hk2, zgq hs, hR, if_neg (by decide)]
   have hV : [] = segV m k l := by unfold segV; rw [if_neg (by rw [hE]; decide)]
   apply yb;refine yg ?_;refine X.ret ?_;refine RetQ.imp (yn (ts := [(6, smsA []), (7, iv 14)]) (hs := [])) ?_;refine yw ?_ ?_;all_goals (first | (rw [← hV]; done) | (rw [hE]; done) | exact congrArg (fun z => smsA z) hV | (rw [← hV]; rfl) | (rw [hE]; rfl))
  have hR : segR (unT m k) l s = 0 := by unfold segR; rw [if_pos hcE, if_neg (by intro hh; rcases hc5 with h | h; (rw [hh.1] at h; cases h); exact hh.2 h)]
  apply yf;apply yc;iterate 5 refine ya ?_
  refine Ex.mo (hs := zx (n := 2) s (segW (unT m k) l s) rfl rfl hsn (fun _ => rfl) (by decide) rfl rfl rfl (by decide) rfl rfl rfl TyK.h) ?_;apply Ex.nil;apply yc;refine yg ?_
  refine yM (n + 1) (hJ := by
   exact ⟨by omega, by rw [hk2, zgq hs, if_pos hR]⟩) (hI := yq)
 ·have hn : n = (sgs0 l (bds k l)).length := by omega
  subst hn;have hE : segE m k l = 0 := by rw [hEE, hk2, List.drop_length]; rfl
  have hV : sgP (unT m k) l (sgs0 l (bds k l)) (sgs0 l (bds k l)).length = segV m k l := by unfold segV; rw [if_pos hE, znG]
  apply X.exit;apply yb;refine yo ?_;refine X.ret ?_;refine RetQ.imp (Imp.freeze (k := 39) rfl) ?_;refine yw ?_ ?_;all_goals (first | (rw [← hV]; done) | (rw [hE]; done) | exact congrArg (fun z => smsA z) hV | (rw [← hV]; rfl) | (rw [hE]; rfl))
end Go.Rse
namespace Go.Rse
open Go Go.Proofs
def sumA : Tm -> List Tm -> Tm
 | t, [] => t
 | t, d :: r => sumA (addV t d) r
end Go.Rse
