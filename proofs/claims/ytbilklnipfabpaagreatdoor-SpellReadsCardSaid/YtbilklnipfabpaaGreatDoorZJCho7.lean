/-
  Walks: one combination of meanings; all readings.
-/
import Derived.Test.YtbilklnipfabpaaGreatDoorZJCho4
set_option linter.unusedSimpArgs false
set_option linter.unusedVariables false
namespace Go.Rse
open Go Go.Proofs
attribute [local irreducible] Pur yD yE Ex X Fn Imp LeV LeB FnO It yH FnW FnOW
abbrev zaS (l : List Rdg) : AV := .sl rdgE l
theorem zn3 (m : Mn) (l : List Sg) (n : Int) : (cmI m l n).length <= l.length := ziZ _ _ _ _
theorem zpT (m : Mn) {l : List Sg} (hl : l.length <= 1000) (n : Int) : ∀ p ∈ [(⟨cmI m l n, [], []⟩ : Par)], PB 1000 0 0 p := by
 intro p hp;simp at hp; subst hp;exact ⟨by have := zn3 m l n; show (cmI m l n).length <= 1000; omega, Nat.le_refl _, Nat.le_refl _⟩
theorem zqE {m : Mn} {l : List Sg} {n : Int} (h : cmL m (perfL m) [⟨cmI m l n, [], []⟩] = ([], 15)) : cmE m l n = 15 /\ cmV m l n = [] := by
 have : cmE m l n = 15 := by unfold cmE cmR; rw [h]
 refine ⟨this, ?_⟩; unfold cmV; rw [this]; rfl
theorem zqF {m : Mn} {l : List Sg} {n : Int} {L : List Par} (h : cmL m (perfL m) [⟨cmI m l n, [], []⟩] = (L, 0)) : cmE m l n = 0 /\ L.map (rdOf (iofD m l n) (iofM m l n)) = cmV m l n := by
 have : cmE m l n = 0 := by unfold cmE cmR; rw [h]
 refine ⟨this, ?_⟩; unfold cmV cmR; rw [this, if_pos rfl, h]
theorem zn4 {d mi : List Int} {L : List Par} {j : Nat} {p : Par} (h : L[j]? = some p) : (L.take j).map (rdOf d mi) ++ [rdOf d mi p] = (L.take (j + 1)).map (rdOf d mi) := by
 rw [List.take_add_one, h]; simp
theorem zqG (m : Mn) {l : List Sg} (hl : l.length <= 1000) (n : Int) : (cmV m l n).length <= 4096 := by
 unfold cmV cmR;split
 ·rename_i h;rw [List.length_map]
  have key : ∀ (L : List Int) (c : Nat) (z : List Par), z.length <= 4096 -> (∀ p ∈ z, PB 1000 0 c p) -> (cmL m L z).1.length <= 4096 := by
   intro L
   induction L with
   | nil => intro c z h1 _; exact h1
   | cons k r ih =>
    intro c z h1 h2;simp only [cmL];split
    ·have := zmt (m := m) (k := k) h1 h2;exact ih _ _ this.1 this.2
    ·simp
  exact key _ 0 _ (by simp) (zpT m hl n)
 ·simp
attribute [local irreducible] alV alE segE segV alvE alvV cmI cmL cmN cmV cmE iofD iofM perfL ictE ictV aqN aqX aqE aqV
set_option maxHeartbeats 8000000 in
theorem zfm (m : Mn) (l : List Sg) (n : Int) (hl : l.length <= 1000) (hM : ckM m = 0) (he : iofE m l n = 0) (hi : itmE m l (iofD m l n) (iofM m l n) = 0) : Fn Tryz.prog 33 [mnA m, sgsA l, iv n] (.tup [zaS (cmV m l n), iv (cmE m l n)]) := by
 have hOf := zlw m l n hl;rw [he] at hOf;have hdl : (iofD m l n).length <= 1000 := by rw [zkn he]; have := zn8 m l; omega
 have hml : (iofM m l n).length <= 1000 := by rw [zko he]; have := zks m l; omega
 have hIt : Fn Tryz.prog 44 [mnA m, sgsA l, yh (iofD m l n), yh (iofM m l n)] (.tup [itsA (cmI m l n), iv 0]) := by
  have h := zh7 m l (iofD m l n) (iofM m l n) hl (by omega);rw [hi] at h; unfold cmI; exact h
 have hL := zdC m;rw [hM, if_pos rfl] at hL;have hp4 := zoN m;have hz0 : [(⟨cmI m l n, [], []⟩ : Par)] = cmN m (perfL m) [(⟨cmI m l n, [], []⟩ : Par)] 0 := by unfold cmN; rfl
 refine Fn.go Tryz.func33 Tryz.ntmps33 (fun g w d => ?_);apply yb;refine yG ?_;iterate 2 refine ya ?_
 apply yk;iterate 3 refine ya ?_
 refine yq hOf ?_;iterate 6 refine ya ?_
 refine yd ?_;apply ye;apply yb;refine yg ?_;refine ym rfl ?_ ?_<;>intro hc1
 ·exact absurd rfl hc1
 apply yf;apply yb;iterate 4 refine ya ?_
 refine yq hIt ?_;refine zv ?_;apply ye;apply yb;refine yg ?_;refine ym rfl ?_ ?_<;>intro hc2
 ·exact absurd rfl hc2
 apply yf;apply yb;refine ya ?_;refine yq hL ?_;iterate 5 refine ya ?_
 apply yk;iterate 2 refine ya ?_
 refine zf (st' := ⟨[(3, .ptr 3 0 0 0), (8, yh (iofD m l n)), (9, yh (iofM m l n)), (12, yh (perfL m)), (48, parA ⟨cmI m l n, [], []⟩)], [(3, .box (mnE m) 24)]⟩) (za2 ⟨⟨_, rfl, LeV.refl _⟩, ⟨_, rfl, LeV.refl _⟩, ⟨_, rfl, LeV.refl _⟩, ⟨_, rfl, LeV.refl _⟩, ⟨_, rfl, LeV.agg (.cons (LeV.refl _) (.cons (LeV.nils _) (.cons (LeV.nils _) .nil)))⟩, True.intro⟩ ⟨⟨_, rfl, LeB.refl _⟩, True.intro⟩) ?_;refine yV parE [(⟨cmI m l n, [], []⟩ : Par)] ?_;refine yd ?_;iterate 2 apply ye
 refine zm (st' := ⟨[(3, .ptr 3 0 0 0), (8, yh (iofD m l n)), (9, yh (iofM m l n)), (12, yh (perfL m)), (14, zac [(⟨cmI m l n, [], []⟩ : Par)])], [(3, .box (mnE m) 24)]⟩) ((Imp.freeze (k := 49) rfl).trans yi) ?_;apply yc;refine yr ?_;apply X.block
 refine zw (ι := Nat) (fun (k : Nat) => [(3, .ptr 3 0 0 0), (8, yh (iofD m l n)), (9, yh (iofM m l n)), (14, zac (cmN m (perfL m) [(⟨cmI m l n, [], []⟩ : Par)] k)), (50, yh (perfL m)), (51, iv ((perfL m).length : Int)), (52, iv (k : Int))]) (fun (k : Nat) => [(3, .box (mnE m) 24)]) (fun (k : Nat) => CmJ m (perfL m) [(⟨cmI m l n, [], []⟩ : Par)] k) (fun (k : Nat) => (perfL m).length - k) 0 (fun k hk => ?_) (hJ := by
  exact zsC m (perfL m) _) (h0 := by
  exact yA)
 have hJ := hk;have hle := hJ.le;clear hk;have hZ1 := zmu (m := m) (L := perfL m) (l := [(⟨cmI m l n, [], []⟩ : Par)]) (by simp) (zpT m hl n) k;obtain ⟨hN1, hN2⟩ := hZ1;apply yb;refine yd ?_;apply ye;refine ym rfl ?_ ?_<;>intro hc3
 ·obtain ⟨kk, hk⟩ : ∃ kk, (perfL m)[k]? = some kk := ⟨_, lgg (by omega)⟩;have hk2 : (perfL m)[(k : Int).toNat]? = some kk := by simpa using hk
  have hkb := zrh hk;have hks := zp1 (m := m) (l := [(⟨cmI m l n, [], []⟩ : Par)]) hk;apply yf;apply ye;apply X.block;apply yb;iterate 3 refine ya ?_
  apply yk;iterate 3 refine ya ?_
  refine yq (zdZ m kk (cmN m (perfL m) [(⟨cmI m l n, [], []⟩ : Par)] k) 1000 (k * (2 * 1000 + 2)) (by omega) (by omega) (by omega) (by omega) hN1 hN2) ?_;iterate 5 refine ya ?_
  apply yk;refine yg ?_;refine ym rfl ?_ ?_<;>intro hc4
  ·have hZ2 := hJ.bad hk hc4;obtain ⟨h15, hcm⟩ := hZ2;have hZ3 := zqE hcm;obtain ⟨hE, hV⟩ := hZ3;apply yb;refine yr ?_;refine X.ret ?_;refine yo (yi (ts := [(6, zaS []), (7, iv (alvE m kk (cmN m (perfL m) [(⟨cmI m l n, [], []⟩ : Par)] k)))]) (hs := [])) ?_;refine yy ?_ ?_;all_goals (first | (rw [hV]; done) | (rw [hE, h15]; done) | exact congrArg (fun z => zaS z) hW | exact congrArg (fun z => AV.int .i64 z) hE.symm)
  have h0 : alvE m kk (cmN m (perfL m) [(⟨cmI m l n, [], []⟩ : Par)] k) = 0 := by omega
  apply yf;apply yc;refine yg ?_
  refine yY (k + 1) (hJ := by
   exact hJ.s hk h0) (hI := yA)
 ·obtain rfl : k = (perfL m).length := by omega
  have hZ4 := zqF (hJ.fin rfl);obtain ⟨hE, hV⟩ := hZ4;apply X.exit;apply yb;refine yd ?_;iterate 2 apply ye
  refine zm (zg rdgE 35 4 17 40 rfl rfl) ?_;apply yc;refine yr ?_;apply X.block;have hr0 : [] = ((cmN m (perfL m) [(⟨cmI m l n, [], []⟩ : Par)] (perfL m).length).take 0).map (rdOf (iofD m l n) (iofM m l n)) := by simp
  refine zw (ι := Nat) (fun (q : Nat) => [(8, yh (iofD m l n)), (9, yh (iofM m l n)), (17, .own 40), (67, zac (cmN m (perfL m) [(⟨cmI m l n, [], []⟩ : Par)] (perfL m).length)), (68, iv ((cmN m (perfL m) [(⟨cmI m l n, [], []⟩ : Par)] (perfL m).length).length : Int)), (69, iv (q : Int))]) (fun (q : Nat) => [(40, .row rdgE (((cmN m (perfL m) [(⟨cmI m l n, [], []⟩ : Par)] (perfL m).length).take q).map (rdOf (iofD m l n) (iofM m l n))) 35 4)]) (fun (q : Nat) => q <= (cmN m (perfL m) [(⟨cmI m l n, [], []⟩ : Par)] (perfL m).length).length) (fun (q : Nat) => (cmN m (perfL m) [(⟨cmI m l n, [], []⟩ : Par)] (perfL m).length).length - q) 0 (fun q hk => ?_) (h0 := by
   exact yA)
  apply yb;refine yd ?_;apply ye;refine ym rfl ?_ ?_<;>intro hc5
  ·obtain ⟨p, hp⟩ : ∃ p, (cmN m (perfL m) [(⟨cmI m l n, [], []⟩ : Par)] (perfL m).length)[q]? = some p := ⟨_, lgg (by omega)⟩;have hp2 : (cmN m (perfL m) [(⟨cmI m l n, [], []⟩ : Par)] (perfL m).length)[(q : Int).toNat]? = some p := by simpa using hp
   have hPB := hN2 p (List.mem_of_getElem? hp);have hst := zn4 (d := (iofD m l n)) (mi := (iofM m l n)) hp;have hrl : (((cmN m (perfL m) [(⟨cmI m l n, [], []⟩ : Par)] (perfL m).length).take q).map (rdOf (iofD m l n) (iofM m l n))).length <= 5000 := by rw [List.length_map, List.length_take]; omega
   apply yf;apply ye;apply X.block;apply yb;(iterate 2 refine ya ?_);refine yJ ?_;refine yj ?_;apply Ex.nil;refine X.drawQ [⟨1, 74, yh (iofD m l n), []⟩, ⟨2, 75, yh (iofD m l n), [1]⟩, ⟨3, 76, yh (iofM m l n), []⟩, ⟨4, 77, yh (iofM m l n), [1, 2, 3]⟩, ⟨5, 78, .ptr 19 0 0 (0 + 2), []⟩, ⟨6, 79, yh p.made, [5]⟩, ⟨7, 80, yh p.made, [1, 2, 3, 5, 4, 6]⟩, ⟨8, 81, .ptr 19 0 0 (0 + 0), []⟩, ⟨9, 82, itsA p.items, [8]⟩, ⟨10, 83, tmsA (p.items.map (·.Dur)), [1, 2, 3, 5, 4, 6, 8, 7, 9]⟩, ⟨11, 84, rdgA (rdOf (iofD m l n) (iofM m l n) p), [8, 5, 9, 6, 3, 1, 10, 7, 4, 2]⟩, ⟨12, 85, zaS [(rdOf (iofD m l n) (iofM m l n) p)], [8, 5, 9, 6, 3, 1, 10, 7, 4, 2, 11]⟩] [(0, []), (13, [5, 3, 1, 6, 8, 4, 2, 7, 9, 11, 10, 12, 0]), (14, [12, 11, 10, 9, 8, 7, 6, 5, 4, 3, 2, 1, 0, 13])] (fun j => match j with | 0 => ⟨[(8, yh (iofD m l n)), (9, yh (iofM m l n)), (17, .own 40), (67, zac (cmN m (perfL m) [(⟨cmI m l n, [], []⟩ : Par)] (perfL m).length)), (68, iv ((cmN m (perfL m) [(⟨cmI m l n, [], []⟩ : Par)] (perfL m).length).length : Int)), (69, iv (q : Int)), (19, .ptr 19 0 0 0)], [(40, .row rdgE ((((cmN m (perfL m) [(⟨cmI m l n, [], []⟩ : Par)] (perfL m).length).take q).map (rdOf (iofD m l n) (iofM m l n)))) 35 4), (19, .box (parE p) 124)]⟩ | 1 => ⟨[(8, yh (iofD m l n)), (9, yh (iofM m l n)), (17, .own 40), (67, zac (cmN m (perfL m) [(⟨cmI m l n, [], []⟩ : Par)] (perfL m).length)), (68, iv ((cmN m (perfL m) [(⟨cmI m l n, [], []⟩ : Par)] (perfL m).length).length : Int)), (69, iv (q : Int)), (19, .ptr 19 0 0 0), (73, .own 40)], [(40, .row rdgE ((((cmN m (perfL m) [(⟨cmI m l n, [], []⟩ : Par)] (perfL m).length).take q).map (rdOf (iofD m l n) (iofM m l n)))) 35 4), (19, .box (parE p) 124)]⟩ | 2 => ⟨[(8, yh (iofD m l n)), (9, yh (iofM m l n)), (67, zac (cmN m (perfL m) [(⟨cmI m l n, [], []⟩ : Par)] (perfL m).length)), (68, iv ((cmN m (perfL m) [(⟨cmI m l n, [], []⟩ : Par)] (perfL m).length).length : Int)), (69, iv (q : Int)), (19, .ptr 19 0 0 0), (86, .own 40)], [(40, .row rdgE ((((cmN m (perfL m) [(⟨cmI m l n, [], []⟩ : Par)] (perfL m).length).take q).map (rdOf (iofD m l n) (iofM m l n))) ++ [(rdOf (iofD m l n) (iofM m l n) p)]) 35 4), (19, .box (parE p) 124)]⟩ | _ => ⟨[(8, yh (iofD m l n)), (9, yh (iofM m l n)), (17, .own 40), (67, zac (cmN m (perfL m) [(⟨cmI m l n, [], []⟩ : Par)] (perfL m).length)), (68, iv ((cmN m (perfL m) [(⟨cmI m l n, [], []⟩ : Par)] (perfL m).length).length : Int)), (69, iv (q : Int)), (19, .ptr 19 0 0 0)], [(40, .row rdgE ((((cmN m (perfL m) [(⟨cmI m l n, [], []⟩ : Par)] (perfL m).length).take q).map (rdOf (iofD m l n) (iofM m l n))) ++ [(rdOf (iofD m l n) (iofM m l n) p)]) 35 4), (19, .box (parE p) 124)]⟩) mo (by kernel_rfl) (zbO (yi)) (fun j hj => ?_) (fun j c hc β hβ => ?_) ?_
   ·rcases j with _ | _ | _ | _ | j
    ·refine ⟨.inr ⟨_, rfl, rfl, rfl, rfl, Pur.stepA yX⟩, ?_⟩;refine ⟨.inr ⟨_, rfl, rfl, rfl, rfl, zav rfl rfl rfl (LeL.refl _) (y7 (iofD m l n) (by omega))⟩, ?_⟩;refine ⟨.inr ⟨_, rfl, rfl, rfl, rfl, Pur.stepA yX⟩, ?_⟩;refine ⟨.inr ⟨_, rfl, rfl, rfl, rfl, zav rfl rfl rfl (LeL.refl _) (y7 (iofM m l n) (by omega))⟩, ?_⟩;(iterate 2 refine ⟨.inr ⟨_, rfl, rfl, rfl, rfl, Pur.stepA yX⟩, ?_⟩);refine ⟨.inr ⟨_, rfl, rfl, rfl, rfl, zav rfl rfl rfl (LeL.refl _) (y7 p.made (by have := hPB.d; omega))⟩, ?_⟩;(iterate 2 refine ⟨.inr ⟨_, rfl, rfl, rfl, rfl, Pur.stepA yX⟩, ?_⟩);refine ⟨.inr ⟨_, rfl, rfl, rfl, rfl, zav rfl rfl rfl (LeL.refl _) (zcL p.items (by have := hPB.i; omega))⟩, ?_⟩;refine ⟨.inr ⟨_, rfl, rfl, rfl, rfl, Pur.stepA yX⟩, ?_⟩;refine ⟨.inr ⟨_, rfl, rfl, rfl, rfl, zdJ (enc := rdgE) (l := [(rdOf (iofD m l n) (iofM m l n) p)]) sl28 ty35 ze35 (by decide) rfl rfl rfl rfl (by decide) (by decide) (fun _ => rfl) rfl⟩, ?_⟩;exact True.intro
    ·refine ⟨.inr ⟨_, rfl, rfl, rfl, rfl, Pur.stepA yX⟩, ?_⟩;refine ⟨.inr ⟨_, rfl, rfl, rfl, rfl, zav rfl rfl rfl (LeL.refl _) (y7 (iofD m l n) (by omega))⟩, ?_⟩;refine ⟨.inr ⟨_, rfl, rfl, rfl, rfl, Pur.stepA yX⟩, ?_⟩;refine ⟨.inr ⟨_, rfl, rfl, rfl, rfl, zav rfl rfl rfl (LeL.refl _) (y7 (iofM m l n) (by omega))⟩, ?_⟩;(iterate 2 refine ⟨.inr ⟨_, rfl, rfl, rfl, rfl, Pur.stepA yX⟩, ?_⟩);refine ⟨.inr ⟨_, rfl, rfl, rfl, rfl, zav rfl rfl rfl (LeL.refl _) (y7 p.made (by have := hPB.d; omega))⟩, ?_⟩;(iterate 2 refine ⟨.inr ⟨_, rfl, rfl, rfl, rfl, Pur.stepA yX⟩, ?_⟩);refine ⟨.inr ⟨_, rfl, rfl, rfl, rfl, zav rfl rfl rfl (LeL.refl _) (zcL p.items (by have := hPB.i; omega))⟩, ?_⟩;refine ⟨.inr ⟨_, rfl, rfl, rfl, rfl, Pur.stepA yX⟩, ?_⟩;refine ⟨.inr ⟨_, rfl, rfl, rfl, rfl, zdJ (enc := rdgE) (l := [(rdOf (iofD m l n) (iofM m l n) p)]) sl28 ty35 ze35 (by decide) rfl rfl rfl rfl (by decide) (by decide) (fun _ => rfl) rfl⟩, ?_⟩;exact True.intro
    ·exact zM
    ·exact zM
    ·exact absurd (show j + 4 <= 3 from hj) (by omega)
   ·rcases j with _ | _ | _ | j
    ·obtain rfl : (0, []) = c := by injection hc
     refine yu rfl (yR (st0 := ⟨[(74, .ifb (β 1) (yh (iofD m l n))), (75, .ifb (β 2) (yh (iofD m l n))), (76, .ifb (β 3) (yh (iofM m l n))), (77, .ifb (β 4) (yh (iofM m l n))), (78, .ifb (β 5) (.ptr 19 0 0 (0 + 2))), (79, .ifb (β 6) (yh p.made)), (80, .ifb (β 7) (yh p.made)), (81, .ifb (β 8) (.ptr 19 0 0 (0 + 0))), (82, .ifb (β 9) (itsA p.items)), (83, .ifb (β 10) (tmsA (p.items.map (·.Dur)))), (84, .ifb (β 11) (rdgA (rdOf (iofD m l n) (iofM m l n) p))), (85, .ifb (β 12) (zaS [(rdOf (iofD m l n) (iofM m l n) p)])), (8, yh (iofD m l n)), (9, yh (iofM m l n)), (17, .own 40), (67, zac (cmN m (perfL m) [(⟨cmI m l n, [], []⟩ : Par)] (perfL m).length)), (68, iv ((cmN m (perfL m) [(⟨cmI m l n, [], []⟩ : Par)] (perfL m).length).length : Int)), (69, iv (q : Int)), (19, .ptr 19 0 0 0)], [(40, .row rdgE ((((cmN m (perfL m) [(⟨cmI m l n, [], []⟩ : Par)] (perfL m).length).take q).map (rdOf (iofD m l n) (iofM m l n)))) 35 4), (19, .box (parE p) 124)]⟩) (yO) ?_);refine yp (yx (Pur.stepA yX) rfl rfl) (yO)
    ·obtain rfl : (13, [5, 3, 1, 6, 8, 4, 2, 7, 9, 11, 10, 12, 0]) = c := by injection hc
     refine yu rfl (yR (st0 := ⟨[(74, yh (iofD m l n)), (75, yh (iofD m l n)), (76, yh (iofM m l n)), (77, yh (iofM m l n)), (78, .ptr 19 0 0 (0 + 2)), (79, yh p.made), (80, yh p.made), (81, .ptr 19 0 0 (0 + 0)), (82, itsA p.items), (83, tmsA (p.items.map (·.Dur))), (84, rdgA (rdOf (iofD m l n) (iofM m l n) p)), (85, zaS [(rdOf (iofD m l n) (iofM m l n) p)]), (8, yh (iofD m l n)), (9, yh (iofM m l n)), (17, .own 40), (67, zac (cmN m (perfL m) [(⟨cmI m l n, [], []⟩ : Par)] (perfL m).length)), (68, iv ((cmN m (perfL m) [(⟨cmI m l n, [], []⟩ : Par)] (perfL m).length).length : Int)), (69, iv (q : Int)), (19, .ptr 19 0 0 0), (73, .own 40)], [(40, .row rdgE ((((cmN m (perfL m) [(⟨cmI m l n, [], []⟩ : Par)] (perfL m).length).take q).map (rdOf (iofD m l n) (iofM m l n)))) 35 4), (19, .box (parE p) 124)]⟩) (yO) ?_);refine yp (zbI (l := (((cmN m (perfL m) [(⟨cmI m l n, [], []⟩ : Par)] (perfL m).length).take q).map (rdOf (iofD m l n) (iofM m l n)))) (l2 := [(rdOf (iofD m l n) (iofM m l n) p)]) rfl rfl rfl sl28 ti35 (by decide) (by decide) (fun _ => rfl) (fun _ => rfl) (by simp; omega) rfl) (yO)
    ·obtain rfl : (14, [12, 11, 10, 9, 8, 7, 6, 5, 4, 3, 2, 1, 0, 13]) = c := by injection hc
     refine yu rfl (yR (st0 := ⟨[(74, yh (iofD m l n)), (75, yh (iofD m l n)), (76, yh (iofM m l n)), (77, yh (iofM m l n)), (78, .ptr 19 0 0 (0 + 2)), (79, yh p.made), (80, yh p.made), (81, .ptr 19 0 0 (0 + 0)), (82, itsA p.items), (83, tmsA (p.items.map (·.Dur))), (84, rdgA (rdOf (iofD m l n) (iofM m l n) p)), (85, zaS [(rdOf (iofD m l n) (iofM m l n) p)]), (8, yh (iofD m l n)), (9, yh (iofM m l n)), (67, zac (cmN m (perfL m) [(⟨cmI m l n, [], []⟩ : Par)] (perfL m).length)), (68, iv ((cmN m (perfL m) [(⟨cmI m l n, [], []⟩ : Par)] (perfL m).length).length : Int)), (69, iv (q : Int)), (19, .ptr 19 0 0 0), (86, .own 40)], [(40, .row rdgE ((((cmN m (perfL m) [(⟨cmI m l n, [], []⟩ : Par)] (perfL m).length).take q).map (rdOf (iofD m l n) (iofM m l n))) ++ [(rdOf (iofD m l n) (iofM m l n) p)]) 35 4), (19, .box (parE p) 124)]⟩) (yO) ?_);refine yp (yx (Pur.stepA yX) rfl rfl) (yO)
    ·exact absurd hc (by simp)
   apply yc;refine yg ?_;refine yY (q + 1) (hI := yA)
  ·obtain rfl : q = (cmN m (perfL m) [(⟨cmI m l n, [], []⟩ : Par)] (perfL m).length).length := by omega
   have hW : ((cmN m (perfL m) [(⟨cmI m l n, [], []⟩ : Par)] (perfL m).length).take (cmN m (perfL m) [(⟨cmI m l n, [], []⟩ : Par)] (perfL m).length).length).map (rdOf (iofD m l n) (iofM m l n)) = cmV m l n := by rw [List.take_length]; exact hV
   apply X.exit;apply yb;refine yr ?_;refine X.ret ?_;refine yo (Imp.freeze (k := 40) rfl) ?_;refine yy ?_ ?_;all_goals (first | (rw [hV]; done) | (rw [hE, h15]; done) | exact congrArg (fun z => zaS z) hW | exact congrArg (fun z => AV.int .i64 z) hE.symm)
end Go.Rse
namespace Go.Rse
open Go Go.Proofs
attribute [local irreducible] Pur yD yE Ex X Fn Imp LeV LeB FnO It yH FnW FnOW
theorem zlN (m : Mn) : ∀ (L : List Int) (l : List Par), (cmL m L l).2 = 0 \/ (cmL m L l).2 = 15
 | [], _ => .inl rfl
 | k :: r, l => by
  simp only [cmL]; split
  ·exact zlN m r _
  ·exact .inr rfl
theorem zqH (m : Mn) (l : List Sg) (n : Int) : cmE m l n = 0 \/ cmE m l n = 15 := zlN _ _ _
theorem zsj (m : Mn) (l : List Sg) (n : Nat) : aqN m l n ++ cmV m l (n : Int) = aqN m l (n + 1) := rfl
theorem zqI {m : Mn} {l : List Sg} (h : ictE m l = 0) : ckM m = 0 /\ ckD m l = 0 := ⟨(zfQ (zgc h).1).1, (zgc h).1⟩
attribute [local irreducible] cmV cmE iofD iofM perfL ictE ictV aqN aqX aqE aqV
theorem zeD (m : Mn) (l : List Sg) (hl : l.length <= 1000) : Fn Tryz.prog 32 [mnA m, sgsA l] (.tup [iv (ictV m l), iv (ictE m l)]) := by
 refine Fn.go Tryz.func32 Tryz.ntmps32 (fun g w d => ?_);apply yb;refine yG ?_;iterate 2 refine ya ?_
 apply yk;iterate 2 refine ya ?_
 refine yq (zh8 m l hl) ?_;refine zaj ?_;refine X.ret ?_;refine yy ?_ ?_;all_goals (first | rfl | (simp_all; done))
set_option maxHeartbeats 4000000 in
theorem zgW (m : Mn) (l : List Sg) (hl : l.length <= 1000) : Fn Tryz.prog 9 [mnA m, sgsA l] (.tup [zaS (aqV m l), iv (aqE m l)]) := by
 have hz0 : [] = aqN m l 0 := by unfold aqN; rfl
 refine Fn.go Tryz.func9 Tryz.ntmps9 (fun g w d => ?_);apply yb;refine yG ?_;iterate 2 refine ya ?_
 apply yk;iterate 2 refine ya ?_
 refine yq (zeD m l hl) ?_;refine zv ?_;apply ye;apply yb;refine yg ?_;refine ym rfl ?_ ?_<;>intro hc1
 ·have hZ1 := zuv hc1;obtain ⟨hE, hV⟩ := hZ1;apply yb;refine yr ?_;refine X.ret ?_;refine yo (yi (ts := [(4, zaS []), (5, iv (ictE m l))]) (hs := [])) ?_;refine yy ?_ ?_;all_goals (first | (rw [hV]; done) | (rw [hE, h15]; done) | (rw [hE]; done) | exact congrArg (fun z => zaS z) hV | exact congrArg (fun z => AV.int .i64 z) hE.symm)
 have h0 : ictE m l = 0 := by omega
 have hZ2 := zqI h0;obtain ⟨hM, hck⟩ := hZ2;have hrg := zn7 hM h0;apply yf;apply yb;refine yd ?_;iterate 2 apply ye
 refine zm (zg rdgE 35 4 8 30 rfl rfl) ?_;apply yc;refine yg ?_;apply X.block
 refine zw (ι := Nat) (fun (k : Nat) => [(1, sgsA l), (2, .ptr 2 0 0 0), (8, .own 30), (21, iv (ictV m l)), (22, iv (k : Int))]) (fun (k : Nat) => [(2, .box (mnE m) 24), (30, .row rdgE (aqN m l k) 35 4)]) (fun (k : Nat) => k <= (ictV m l).toNat /\ aqX m l k = true) (fun (k : Nat) => (ictV m l).toNat - k) 0 (fun k hk => ?_) (hJ := by
  exact ⟨Nat.zero_le _, by unfold aqX; rfl⟩) (h0 := by
  exact yA)
 obtain ⟨hk1, hX⟩ := hk;apply yb;refine yd ?_;apply ye;refine ym rfl ?_ ?_<;>intro hc2
 ·have hkn : (k : Int) < ictV m l := by omega
  have hie := zjx h0 hkn;have hit := zlV hM hck hie;have hsn := zsj m l k;have hln := zkC hX;have hcl := zqG m hl (k : Int);apply yf;apply ye;apply X.block;apply yb;iterate 2 refine ya ?_
  apply yk;iterate 3 refine ya ?_
  refine yq (zfm m l (k : Int) hl hM hie hit) ?_;refine zv ?_;apply ye;apply yb;refine yg ?_;refine ym rfl ?_ ?_<;>intro hc3
  ·have hZ3 := zsE h0 hkn (.inl hc3);obtain ⟨hE, hV⟩ := hZ3;have h15 := (zqH m l (k : Int)).resolve_left hc3;apply yb;refine yr ?_;refine X.ret ?_;refine yo (yi (ts := [(4, zaS []), (5, iv (cmE m l (k : Int)))]) (hs := [])) ?_;refine yy ?_ ?_;all_goals (first | (rw [hV]; done) | (rw [hE, h15]; done) | (rw [hE]; done) | exact congrArg (fun z => zaS z) hV | exact congrArg (fun z => AV.int .i64 z) hE.symm)
  have hc0 : cmE m l (k : Int) = 0 := by omega
  apply yf;apply yb;iterate 2 refine ya ?_
  refine yj ?_;refine ya ?_;apply yk;refine yr ?_;refine ym rfl ?_ ?_<;>intro hc4
  ·have hl4 : 4096 < (aqN m l (k + 1)).length := by rw [← hsn]; omega
   have hZ4 := zsE h0 hkn (.inr hl4);obtain ⟨hE, hV⟩ := hZ4;apply yb;refine yg ?_;refine X.ret ?_;refine yo (yi (ts := [(4, zaS []), (5, iv 15)]) (hs := [])) ?_;refine yy ?_ ?_;all_goals (first | (rw [hV]; done) | (rw [hE, h15]; done) | (rw [hE]; done) | exact congrArg (fun z => zaS z) hV | exact congrArg (fun z => AV.int .i64 z) hE.symm)
  have hl4 : (aqN m l (k + 1)).length <= 4096 := by rw [← hsn]; omega
  apply yf;apply yc;refine yg ?_
  refine yY (k + 1) (hJ := by
   exact ⟨by omega, zuw hX hc0 hl4⟩) (hI := yA)
 ·obtain rfl : k = (ictV m l).toNat := by omega
  apply X.exit;apply ye;apply yb;refine yr ?_;refine ym rfl ?_ ?_<;>intro hc5
  ·have hZ5 := zux h0 rfl hX (by omega);obtain ⟨hE, hV⟩ := hZ5;apply yb;refine yg ?_;refine X.ret ?_;refine yo (yi (ts := [(4, zaS []), (5, iv 14)]) (hs := [])) ?_;refine yy ?_ ?_;all_goals (first | (rw [hV]; done) | (rw [hE, h15]; done) | (rw [hE]; done) | exact congrArg (fun z => zaS z) hV | exact congrArg (fun z => AV.int .i64 z) hE.symm)
  have hZ6 := zuy h0 rfl hX (by omega);obtain ⟨hE, hV⟩ := hZ6;apply yf;apply yb;refine yr ?_;refine X.ret ?_;refine yo (Imp.freeze (k := 30) rfl) ?_;refine yy ?_ ?_;all_goals (first | (rw [hV]; done) | (rw [hE, h15]; done) | (rw [hE]; done) | exact congrArg (fun z => zaS z) hV | exact congrArg (fun z => AV.int .i64 z) hE.symm)
end Go.Rse
