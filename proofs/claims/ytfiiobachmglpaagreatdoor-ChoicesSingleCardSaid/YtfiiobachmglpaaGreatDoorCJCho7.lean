/-
  Walks: one combination of meanings; all readings.
-/
import Derived.Test.YtfiiobachmglpaaGreatDoorCCho6
import Derived.Test.YtfiiobachmglpaaGreatDoorCJCho0
set_option linter.unusedSimpArgs false
set_option linter.unusedVariables false
namespace Go.Rse
open Go Go.Proofs
attribute [local irreducible] Pur StepA StepM Ex X Fn Imp LeV LeB FnO It YStep FnW FnOW
abbrev rdgsA (l : List Rdg) : AV := .sl rdgE l
theorem cmI_len (m : Mn) (l : List Sg) (n : Int) : (cmI m l n).length <= l.length := itmV_len _ _ _ _
theorem cm_PB (m : Mn) {l : List Sg} (hl : l.length <= 1000) (n : Int) : ∀ p ∈ [(⟨cmI m l n, [], []⟩ : Par)], PB 1000 0 0 p := by
 intro p hp
 simp at hp; subst hp
 exact ⟨by have := cmI_len m l n; show (cmI m l n).length <= 1000; omega, Nat.le_refl _, Nat.le_refl _⟩
theorem cm_bad {m : Mn} {l : List Sg} {n : Int} (h : cmL m (perfL m) [⟨cmI m l n, [], []⟩] = ([], 15)) : cmE m l n = 15 /\ cmV m l n = [] := by
 have : cmE m l n = 15 := by unfold cmE cmR; rw [h]
 refine ⟨this, ?_⟩; unfold cmV; rw [this]; rfl
theorem cm_fin {m : Mn} {l : List Sg} {n : Int} {L : List Par} (h : cmL m (perfL m) [⟨cmI m l n, [], []⟩] = (L, 0)) : cmE m l n = 0 /\ L.map (rdOf (iofD m l n) (iofM m l n)) = cmV m l n := by
 have : cmE m l n = 0 := by unfold cmE cmR; rw [h]
 refine ⟨this, ?_⟩; unfold cmV cmR; rw [this, if_pos rfl, h]
theorem rd_snoc {d mi : List Int} {L : List Par} {j : Nat} {p : Par} (h : L[j]? = some p) : (L.take j).map (rdOf d mi) ++ [rdOf d mi p] = (L.take (j + 1)).map (rdOf d mi) := by
 rw [List.take_add_one, h]; simp
theorem cmV_le (m : Mn) {l : List Sg} (hl : l.length <= 1000) (n : Int) : (cmV m l n).length <= 4096 := by
 unfold cmV cmR
 split
 ·rename_i h
  rw [List.length_map]
  have key : ∀ (L : List Int) (c : Nat) (z : List Par), z.length <= 4096 -> (∀ p ∈ z, PB 1000 0 c p) -> (cmL m L z).1.length <= 4096 := by
   intro L
   induction L with
   | nil => intro c z h1 _; exact h1
   | cons k r ih =>
    intro c z h1 h2
    simp only [cmL]
    split
    ·have := alv_PB (m := m) (k := k) h1 h2
     exact ih _ _ this.1 this.2
    ·simp
  exact key _ 0 _ (by simp) (cm_PB m hl n)
 ·simp
attribute [local irreducible] alV alE segE segV alvE alvV cmI cmL cmN cmV cmE iofD iofM perfL ictE ictV aqN aqX aqE aqV
set_option maxHeartbeats 8000000 in
theorem C_choices_combo (m : Mn) (l : List Sg) (n : Int) (hl : l.length <= 1000) (hM : ckM m = 0) (he : iofE m l n = 0) (hi : itmE m l (iofD m l n) (iofM m l n) = 0) : Fn Tryz.prog 103 [mnA m, sgsA l, iv n] (.tup [rdgsA (cmV m l n), iv (cmE m l n)]) := by
 have hOf := C_item_Of m l n hl
 rw [he] at hOf
 have hdl : (iofD m l n).length <= 1000 := by rw [iofD_lk he]; have := mnsD_le m l; omega
 have hml : (iofM m l n).length <= 1000 := by rw [iofM_lk he]; have := prL_len m l; omega
 have hIt : Fn Tryz.prog 33 [mnA m, sgsA l, intsA (iofD m l n), intsA (iofM m l n)] (.tup [itsA (cmI m l n), iv 0]) := by
  have h := C_item_Items m l (iofD m l n) (iofM m l n) hl (by omega)
  rw [hi] at h; unfold cmI; exact h
 have hL := C_mens_Levels m
 rw [hM, if_pos rfl] at hL
 have hp4 := pfl_len m
 have hz0 : [(⟨cmI m l n, [], []⟩ : Par)] = cmN m (perfL m) [(⟨cmI m l n, [], []⟩ : Par)] 0 := by unfold cmN; rfl
 refine Fn.go Tryz.func103 Tryz.ntmps103 (fun g w d => ?_)
 apply X.sr
 refine Ex.ba ?_
 iterate 2 refine Ex.pu ?_
 apply Ex.ns
 iterate 3 refine Ex.pu ?_
 refine Ex.ca hOf ?_
 iterate 7 refine Ex.pu ?_
 apply Ex.nil
 apply X.seq
 apply X.sr
 iterate 2 refine Ex.pu ?_
 apply Ex.nil
 refine X.cd rfl (fun hc1 => ?_) (fun hc1 => ?_)
 ·exact absurd rfl hc1
 apply X.skip
 apply X.sr
 iterate 4 refine Ex.pu ?_
 refine Ex.ca hIt ?_
 iterate 5 refine Ex.pu ?_
 apply Ex.nil
 apply X.seq
 apply X.sr
 iterate 2 refine Ex.pu ?_
 apply Ex.nil
 refine X.cd rfl (fun hc2 => ?_) (fun hc2 => ?_)
 ·exact absurd rfl hc2
 apply X.skip
 apply X.sr
 refine Ex.pu ?_
 refine Ex.ca hL ?_
 iterate 5 refine Ex.pu ?_
 apply Ex.ns
 iterate 2 refine Ex.pu ?_
 refine Ex.imp (st' := ⟨[(3, .ptr 3 0 0 0), (8, intsA (iofD m l n)), (9, intsA (iofM m l n)), (12, intsA (perfL m)), (48, parA ⟨cmI m l n, [], []⟩)], [(3, .box (mnE m) 23)]⟩) (Imp.of ⟨⟨_, rfl, LeV.refl _⟩, ⟨_, rfl, LeV.refl _⟩, ⟨_, rfl, LeV.refl _⟩, ⟨_, rfl, LeV.refl _⟩, ⟨_, rfl, LeV.agg (.cons (LeV.refl _) (.cons (LeV.nils _) (.cons (LeV.nils _) .nil)))⟩, True.intro⟩ ⟨⟨_, rfl, LeB.refl _⟩, True.intro⟩) ?_
 refine Ex.bs parE [(⟨cmI m l n, [], []⟩ : Par)] ?_
 refine Ex.pu ?_
 apply Ex.nil
 apply X.seq
 apply X.seq
 refine X.imp (st' := ⟨[(3, .ptr 3 0 0 0), (8, intsA (iofD m l n)), (9, intsA (iofM m l n)), (12, intsA (perfL m)), (14, parsA [(⟨cmI m l n, [], []⟩ : Par)])], [(3, .box (mnE m) 23)]⟩) ((Imp.freeze (k := 49) rfl).trans Imp.au) ?_
 apply X.region
 iterate 3 refine Ex.pu ?_
 apply Ex.nil
 apply X.block
 refine X.lp (ι := Nat) (fun (k : Nat) => [(3, .ptr 3 0 0 0), (8, intsA (iofD m l n)), (9, intsA (iofM m l n)), (14, parsA (cmN m (perfL m) [(⟨cmI m l n, [], []⟩ : Par)] k)), (50, intsA (perfL m)), (51, iv ((perfL m).length : Int)), (52, iv (k : Int))]) (fun (k : Nat) => [(3, .box (mnE m) 23)]) (fun (k : Nat) => CmJ m (perfL m) [(⟨cmI m l n, [], []⟩ : Par)] k) (fun (k : Nat) => (perfL m).length - k) 0 (fun k hk => ?_) (hJ := by
  exact CmJ.z m (perfL m) _) (h0 := by
  exact Imp.ax)
 have hJ := hk
 have hle := hJ.le
 clear hk
 have hZ1 := cmN_PB (m := m) (L := perfL m) (l := [(⟨cmI m l n, [], []⟩ : Par)]) (by simp) (cm_PB m hl n) k
 obtain ⟨hN1, hN2⟩ := hZ1
 apply X.sr
 refine Ex.pu ?_
 apply Ex.nil
 apply X.seq
 refine X.cd rfl (fun hc3 => ?_) (fun hc3 => ?_)
 ·obtain ⟨kk, hk⟩ : ∃ kk, (perfL m)[k]? = some kk := ⟨_, List.getElem?_eq_getElem (by omega)⟩
  have hk2 : (perfL m)[(k : Int).toNat]? = some kk := by simpa using hk
  have hkb := pfl_at hk
  have hks := cmN_s (m := m) (l := [(⟨cmI m l n, [], []⟩ : Par)]) hk
  apply X.skip
  apply X.seq
  apply X.block
  apply X.sr
  iterate 3 refine Ex.pu ?_
  apply Ex.ns
  iterate 3 refine Ex.pu ?_
  refine Ex.ca (C_choices_atLevel m kk (cmN m (perfL m) [(⟨cmI m l n, [], []⟩ : Par)] k) 1000 (k * (2 * 1000 + 2)) (by omega) (by omega) (by omega) (by omega) hN1 hN2) ?_
  iterate 5 refine Ex.pu ?_
  apply Ex.ns
  iterate 2 refine Ex.pu ?_
  apply Ex.nil
  refine X.cd rfl (fun hc4 => ?_) (fun hc4 => ?_)
  ·have hZ2 := hJ.bad hk hc4
   obtain ⟨h15, hcm⟩ := hZ2
   have hZ3 := cm_bad hcm
   obtain ⟨hE, hV⟩ := hZ3
   apply X.sr
   iterate 3 refine Ex.pu ?_
   apply Ex.nil
   refine X.ret ?_
   refine RetQ.imp (Imp.au (ts := [(6, rdgsA []), (7, iv (alvE m kk (cmN m (perfL m) [(⟨cmI m l n, [], []⟩ : Par)] k)))]) (hs := [])) ?_
   refine RetQ.ret (.many (by decide) (.cons (.tmp rfl (LeV.eq ?_)) (.cons (.tmp rfl (LeV.eq ?_)) .nil)))
   all_goals (first | (rw [hV]; done) | (rw [hE, h15]; done) | exact congrArg (fun z => rdgsA z) hW | exact congrArg (fun z => AV.int .i64 z) hE.symm)
  have h0 : alvE m kk (cmN m (perfL m) [(⟨cmI m l n, [], []⟩ : Par)] k) = 0 := by omega
  apply X.skip
  apply X.region
  iterate 2 refine Ex.pu ?_
  apply Ex.nil
  refine X.bk (k + 1) (hJ := by
   exact hJ.s hk h0) (hI := Imp.ax)
 ·obtain rfl : k = (perfL m).length := by omega
  have hZ4 := cm_fin (hJ.fin rfl)
  obtain ⟨hE, hV⟩ := hZ4
  apply X.exit
  apply X.sr
  refine Ex.pu ?_
  apply Ex.nil
  apply X.seq
  apply X.seq
  refine X.imp (Imp.mkrow rdgE 41 4 17 40 rfl rfl) ?_
  apply X.region
  iterate 3 refine Ex.pu ?_
  apply Ex.nil
  apply X.block
  have hr0 : [] = ((cmN m (perfL m) [(⟨cmI m l n, [], []⟩ : Par)] (perfL m).length).take 0).map (rdOf (iofD m l n) (iofM m l n)) := by simp
  refine X.lp (ι := Nat) (fun (q : Nat) => [(8, intsA (iofD m l n)), (9, intsA (iofM m l n)), (17, .own 40), (67, parsA (cmN m (perfL m) [(⟨cmI m l n, [], []⟩ : Par)] (perfL m).length)), (68, iv ((cmN m (perfL m) [(⟨cmI m l n, [], []⟩ : Par)] (perfL m).length).length : Int)), (69, iv (q : Int))]) (fun (q : Nat) => [(40, .row rdgE (((cmN m (perfL m) [(⟨cmI m l n, [], []⟩ : Par)] (perfL m).length).take q).map (rdOf (iofD m l n) (iofM m l n))) 41 4)]) (fun (q : Nat) => q <= (cmN m (perfL m) [(⟨cmI m l n, [], []⟩ : Par)] (perfL m).length).length) (fun (q : Nat) => (cmN m (perfL m) [(⟨cmI m l n, [], []⟩ : Par)] (perfL m).length).length - q) 0 (fun q hk => ?_) (h0 := by
   exact Imp.ax)
  apply X.sr
  refine Ex.pu ?_
  apply Ex.nil
  apply X.seq
  refine X.cd rfl (fun hc5 => ?_) (fun hc5 => ?_)
  ·obtain ⟨p, hp⟩ : ∃ p, (cmN m (perfL m) [(⟨cmI m l n, [], []⟩ : Par)] (perfL m).length)[q]? = some p := ⟨_, List.getElem?_eq_getElem (by omega)⟩
   have hp2 : (cmN m (perfL m) [(⟨cmI m l n, [], []⟩ : Par)] (perfL m).length)[(q : Int).toNat]? = some p := by simpa using hp
   have hPB := hN2 p (List.mem_of_getElem? hp)
   have hst := rd_snoc (d := (iofD m l n)) (mi := (iofM m l n)) hp
   have hrl : (((cmN m (perfL m) [(⟨cmI m l n, [], []⟩ : Par)] (perfL m).length).take q).map (rdOf (iofD m l n) (iofM m l n))).length <= 5000 := by rw [List.length_map, List.length_take]; omega
   apply X.skip
   apply X.seq
   apply X.block
   apply X.sr
   iterate 2 refine Ex.pu ?_
   refine Ex.al ?_
   refine Ex.mo ?_
   apply Ex.nil
   refine X.drawQ [⟨1, 74, intsA (iofD m l n), []⟩, ⟨2, 75, intsA (iofD m l n), [1]⟩, ⟨3, 76, intsA (iofM m l n), []⟩, ⟨4, 77, intsA (iofM m l n), [1, 2, 3]⟩, ⟨5, 78, .ptr 19 0 0 (0 + 2), []⟩, ⟨6, 79, intsA p.made, [5]⟩, ⟨7, 80, intsA p.made, [1, 2, 3, 5, 4, 6]⟩, ⟨8, 81, .ptr 19 0 0 (0 + 0), []⟩, ⟨9, 82, itsA p.items, [8]⟩, ⟨10, 83, tmsA (p.items.map (·.Dur)), [1, 2, 3, 5, 4, 6, 8, 7, 9]⟩, ⟨11, 84, rdgA (rdOf (iofD m l n) (iofM m l n) p), [8, 5, 9, 6, 3, 1, 10, 7, 4, 2]⟩, ⟨12, 85, rdgsA [(rdOf (iofD m l n) (iofM m l n) p)], [8, 5, 9, 6, 3, 1, 10, 7, 4, 2, 11]⟩] [(0, []), (13, [5, 3, 1, 6, 8, 4, 2, 7, 9, 11, 10, 12, 0]), (14, [12, 11, 10, 9, 8, 7, 6, 5, 4, 3, 2, 1, 0, 13])] (fun j => match j with | 0 => ⟨[(8, intsA (iofD m l n)), (9, intsA (iofM m l n)), (17, .own 40), (67, parsA (cmN m (perfL m) [(⟨cmI m l n, [], []⟩ : Par)] (perfL m).length)), (68, iv ((cmN m (perfL m) [(⟨cmI m l n, [], []⟩ : Par)] (perfL m).length).length : Int)), (69, iv (q : Int)), (19, .ptr 19 0 0 0)], [(40, .row rdgE ((((cmN m (perfL m) [(⟨cmI m l n, [], []⟩ : Par)] (perfL m).length).take q).map (rdOf (iofD m l n) (iofM m l n)))) 41 4), (19, .box (parE p) 227)]⟩ | 1 => ⟨[(8, intsA (iofD m l n)), (9, intsA (iofM m l n)), (17, .own 40), (67, parsA (cmN m (perfL m) [(⟨cmI m l n, [], []⟩ : Par)] (perfL m).length)), (68, iv ((cmN m (perfL m) [(⟨cmI m l n, [], []⟩ : Par)] (perfL m).length).length : Int)), (69, iv (q : Int)), (19, .ptr 19 0 0 0), (73, .own 40)], [(40, .row rdgE ((((cmN m (perfL m) [(⟨cmI m l n, [], []⟩ : Par)] (perfL m).length).take q).map (rdOf (iofD m l n) (iofM m l n)))) 41 4), (19, .box (parE p) 227)]⟩ | 2 => ⟨[(8, intsA (iofD m l n)), (9, intsA (iofM m l n)), (67, parsA (cmN m (perfL m) [(⟨cmI m l n, [], []⟩ : Par)] (perfL m).length)), (68, iv ((cmN m (perfL m) [(⟨cmI m l n, [], []⟩ : Par)] (perfL m).length).length : Int)), (69, iv (q : Int)), (19, .ptr 19 0 0 0), (86, .own 40)], [(40, .row rdgE ((((cmN m (perfL m) [(⟨cmI m l n, [], []⟩ : Par)] (perfL m).length).take q).map (rdOf (iofD m l n) (iofM m l n))) ++ [(rdOf (iofD m l n) (iofM m l n) p)]) 41 4), (19, .box (parE p) 227)]⟩ | _ => ⟨[(8, intsA (iofD m l n)), (9, intsA (iofM m l n)), (17, .own 40), (67, parsA (cmN m (perfL m) [(⟨cmI m l n, [], []⟩ : Par)] (perfL m).length)), (68, iv ((cmN m (perfL m) [(⟨cmI m l n, [], []⟩ : Par)] (perfL m).length).length : Int)), (69, iv (q : Int)), (19, .ptr 19 0 0 0)], [(40, .row rdgE ((((cmN m (perfL m) [(⟨cmI m l n, [], []⟩ : Par)] (perfL m).length).take q).map (rdOf (iofD m l n) (iofM m l n))) ++ [(rdOf (iofD m l n) (iofM m l n) p)]) 41 4), (19, .box (parE p) 227)]⟩) mo (by kernel_rfl) (Imp.SP0 (Imp.au)) (fun j hj => ?_) (fun j c hc β hβ => ?_) ?_
   ·rcases j with _ | _ | _ | _ | j
    ·refine ⟨.inr ⟨_, rfl, rfl, rfl, rfl, Pur.stepA Pur.au⟩, ?_⟩
     refine ⟨.inr ⟨_, rfl, rfl, rfl, rfl, A_call rfl rfl rfl (LeL.refl _) (C_slices_Clone_int_int_f (iofD m l n) (by omega))⟩, ?_⟩
     refine ⟨.inr ⟨_, rfl, rfl, rfl, rfl, Pur.stepA Pur.au⟩, ?_⟩
     refine ⟨.inr ⟨_, rfl, rfl, rfl, rfl, A_call rfl rfl rfl (LeL.refl _) (C_slices_Clone_int_int_f (iofM m l n) (by omega))⟩, ?_⟩
     refine ⟨.inr ⟨_, rfl, rfl, rfl, rfl, Pur.stepA Pur.au⟩, ?_⟩
     refine ⟨.inr ⟨_, rfl, rfl, rfl, rfl, Pur.stepA Pur.au⟩, ?_⟩
     refine ⟨.inr ⟨_, rfl, rfl, rfl, rfl, A_call rfl rfl rfl (LeL.refl _) (C_slices_Clone_int_int_f p.made (by have := hPB.d; omega))⟩, ?_⟩
     refine ⟨.inr ⟨_, rfl, rfl, rfl, rfl, Pur.stepA Pur.au⟩, ?_⟩
     refine ⟨.inr ⟨_, rfl, rfl, rfl, rfl, Pur.stepA Pur.au⟩, ?_⟩
     refine ⟨.inr ⟨_, rfl, rfl, rfl, rfl, A_call rfl rfl rfl (LeL.refl _) (C_choices_durs p.items (by have := hPB.i; omega))⟩, ?_⟩
     refine ⟨.inr ⟨_, rfl, rfl, rfl, rfl, Pur.stepA Pur.au⟩, ?_⟩
     refine ⟨.inr ⟨_, rfl, rfl, rfl, rfl, A_buildSliceF (enc := rdgE) (l := [(rdOf (iofD m l n) (iofM m l n) p)]) sl78 ty41 ze41 (by decide) rfl rfl rfl rfl (by decide) (by decide) (fun _ => rfl) rfl⟩, ?_⟩
     exact True.intro
    ·refine ⟨.inr ⟨_, rfl, rfl, rfl, rfl, Pur.stepA Pur.au⟩, ?_⟩
     refine ⟨.inr ⟨_, rfl, rfl, rfl, rfl, A_call rfl rfl rfl (LeL.refl _) (C_slices_Clone_int_int_f (iofD m l n) (by omega))⟩, ?_⟩
     refine ⟨.inr ⟨_, rfl, rfl, rfl, rfl, Pur.stepA Pur.au⟩, ?_⟩
     refine ⟨.inr ⟨_, rfl, rfl, rfl, rfl, A_call rfl rfl rfl (LeL.refl _) (C_slices_Clone_int_int_f (iofM m l n) (by omega))⟩, ?_⟩
     refine ⟨.inr ⟨_, rfl, rfl, rfl, rfl, Pur.stepA Pur.au⟩, ?_⟩
     refine ⟨.inr ⟨_, rfl, rfl, rfl, rfl, Pur.stepA Pur.au⟩, ?_⟩
     refine ⟨.inr ⟨_, rfl, rfl, rfl, rfl, A_call rfl rfl rfl (LeL.refl _) (C_slices_Clone_int_int_f p.made (by have := hPB.d; omega))⟩, ?_⟩
     refine ⟨.inr ⟨_, rfl, rfl, rfl, rfl, Pur.stepA Pur.au⟩, ?_⟩
     refine ⟨.inr ⟨_, rfl, rfl, rfl, rfl, Pur.stepA Pur.au⟩, ?_⟩
     refine ⟨.inr ⟨_, rfl, rfl, rfl, rfl, A_call rfl rfl rfl (LeL.refl _) (C_choices_durs p.items (by have := hPB.i; omega))⟩, ?_⟩
     refine ⟨.inr ⟨_, rfl, rfl, rfl, rfl, Pur.stepA Pur.au⟩, ?_⟩
     refine ⟨.inr ⟨_, rfl, rfl, rfl, rfl, A_buildSliceF (enc := rdgE) (l := [(rdOf (iofD m l n) (iofM m l n) p)]) sl78 ty41 ze41 (by decide) rfl rfl rfl rfl (by decide) (by decide) (fun _ => rfl) rfl⟩, ?_⟩
     exact True.intro
    ·refine ⟨.inl rfl, ?_⟩
     refine ⟨.inl rfl, ?_⟩
     refine ⟨.inl rfl, ?_⟩
     refine ⟨.inl rfl, ?_⟩
     refine ⟨.inl rfl, ?_⟩
     refine ⟨.inl rfl, ?_⟩
     refine ⟨.inl rfl, ?_⟩
     refine ⟨.inl rfl, ?_⟩
     refine ⟨.inl rfl, ?_⟩
     refine ⟨.inl rfl, ?_⟩
     refine ⟨.inl rfl, ?_⟩
     refine ⟨.inl rfl, ?_⟩
     exact True.intro
    ·refine ⟨.inl rfl, ?_⟩
     refine ⟨.inl rfl, ?_⟩
     refine ⟨.inl rfl, ?_⟩
     refine ⟨.inl rfl, ?_⟩
     refine ⟨.inl rfl, ?_⟩
     refine ⟨.inl rfl, ?_⟩
     refine ⟨.inl rfl, ?_⟩
     refine ⟨.inl rfl, ?_⟩
     refine ⟨.inl rfl, ?_⟩
     refine ⟨.inl rfl, ?_⟩
     refine ⟨.inl rfl, ?_⟩
     refine ⟨.inl rfl, ?_⟩
     exact True.intro
    ·exact absurd (show j + 4 <= 3 from hj) (by omega)
   ·rcases j with _ | _ | _ | j
    ·obtain rfl : (0, []) = c := by injection hc
     refine Step1.mk rfl (StepM.pre (st0 := ⟨[(74, .ifb (β 1) (intsA (iofD m l n))), (75, .ifb (β 2) (intsA (iofD m l n))), (76, .ifb (β 3) (intsA (iofM m l n))), (77, .ifb (β 4) (intsA (iofM m l n))), (78, .ifb (β 5) (.ptr 19 0 0 (0 + 2))), (79, .ifb (β 6) (intsA p.made)), (80, .ifb (β 7) (intsA p.made)), (81, .ifb (β 8) (.ptr 19 0 0 (0 + 0))), (82, .ifb (β 9) (itsA p.items)), (83, .ifb (β 10) (tmsA (p.items.map (·.Dur)))), (84, .ifb (β 11) (rdgA (rdOf (iofD m l n) (iofM m l n) p))), (85, .ifb (β 12) (rdgsA [(rdOf (iofD m l n) (iofM m l n) p)])), (8, intsA (iofD m l n)), (9, intsA (iofM m l n)), (17, .own 40), (67, parsA (cmN m (perfL m) [(⟨cmI m l n, [], []⟩ : Par)] (perfL m).length)), (68, iv ((cmN m (perfL m) [(⟨cmI m l n, [], []⟩ : Par)] (perfL m).length).length : Int)), (69, iv (q : Int)), (19, .ptr 19 0 0 0)], [(40, .row rdgE ((((cmN m (perfL m) [(⟨cmI m l n, [], []⟩ : Par)] (perfL m).length).take q).map (rdOf (iofD m l n) (iofM m l n)))) 41 4), (19, .box (parE p) 227)]⟩) (Imp.ib) ?_)
     refine StepM.imp (StepA.toM (Pur.stepA Pur.au) rfl rfl) (Imp.ib)
    ·obtain rfl : (13, [5, 3, 1, 6, 8, 4, 2, 7, 9, 11, 10, 12, 0]) = c := by injection hc
     refine Step1.mk rfl (StepM.pre (st0 := ⟨[(74, intsA (iofD m l n)), (75, intsA (iofD m l n)), (76, intsA (iofM m l n)), (77, intsA (iofM m l n)), (78, .ptr 19 0 0 (0 + 2)), (79, intsA p.made), (80, intsA p.made), (81, .ptr 19 0 0 (0 + 0)), (82, itsA p.items), (83, tmsA (p.items.map (·.Dur))), (84, rdgA (rdOf (iofD m l n) (iofM m l n) p)), (85, rdgsA [(rdOf (iofD m l n) (iofM m l n) p)]), (8, intsA (iofD m l n)), (9, intsA (iofM m l n)), (17, .own 40), (67, parsA (cmN m (perfL m) [(⟨cmI m l n, [], []⟩ : Par)] (perfL m).length)), (68, iv ((cmN m (perfL m) [(⟨cmI m l n, [], []⟩ : Par)] (perfL m).length).length : Int)), (69, iv (q : Int)), (19, .ptr 19 0 0 0), (73, .own 40)], [(40, .row rdgE ((((cmN m (perfL m) [(⟨cmI m l n, [], []⟩ : Par)] (perfL m).length).take q).map (rdOf (iofD m l n) (iofM m l n)))) 41 4), (19, .box (parE p) 227)]⟩) (Imp.ib) ?_)
     refine StepM.imp (M_append_sl (l := (((cmN m (perfL m) [(⟨cmI m l n, [], []⟩ : Par)] (perfL m).length).take q).map (rdOf (iofD m l n) (iofM m l n)))) (l2 := [(rdOf (iofD m l n) (iofM m l n) p)]) rfl rfl rfl sl78 ti41 (by decide) (by decide) (fun _ => rfl) (fun _ => rfl) (by simp; omega) rfl) (Imp.ib)
    ·obtain rfl : (14, [12, 11, 10, 9, 8, 7, 6, 5, 4, 3, 2, 1, 0, 13]) = c := by injection hc
     refine Step1.mk rfl (StepM.pre (st0 := ⟨[(74, intsA (iofD m l n)), (75, intsA (iofD m l n)), (76, intsA (iofM m l n)), (77, intsA (iofM m l n)), (78, .ptr 19 0 0 (0 + 2)), (79, intsA p.made), (80, intsA p.made), (81, .ptr 19 0 0 (0 + 0)), (82, itsA p.items), (83, tmsA (p.items.map (·.Dur))), (84, rdgA (rdOf (iofD m l n) (iofM m l n) p)), (85, rdgsA [(rdOf (iofD m l n) (iofM m l n) p)]), (8, intsA (iofD m l n)), (9, intsA (iofM m l n)), (67, parsA (cmN m (perfL m) [(⟨cmI m l n, [], []⟩ : Par)] (perfL m).length)), (68, iv ((cmN m (perfL m) [(⟨cmI m l n, [], []⟩ : Par)] (perfL m).length).length : Int)), (69, iv (q : Int)), (19, .ptr 19 0 0 0), (86, .own 40)], [(40, .row rdgE ((((cmN m (perfL m) [(⟨cmI m l n, [], []⟩ : Par)] (perfL m).length).take q).map (rdOf (iofD m l n) (iofM m l n))) ++ [(rdOf (iofD m l n) (iofM m l n) p)]) 41 4), (19, .box (parE p) 227)]⟩) (Imp.ib) ?_)
     refine StepM.imp (StepA.toM (Pur.stepA Pur.au) rfl rfl) (Imp.ib)
    ·exact absurd hc (by simp)
   apply X.region
   iterate 2 refine Ex.pu ?_
   apply Ex.nil
   refine X.bk (q + 1) (hI := Imp.ax)
  ·obtain rfl : q = (cmN m (perfL m) [(⟨cmI m l n, [], []⟩ : Par)] (perfL m).length).length := by omega
   have hW : ((cmN m (perfL m) [(⟨cmI m l n, [], []⟩ : Par)] (perfL m).length).take (cmN m (perfL m) [(⟨cmI m l n, [], []⟩ : Par)] (perfL m).length).length).map (rdOf (iofD m l n) (iofM m l n)) = cmV m l n := by rw [List.take_length]; exact hV
   apply X.exit
   apply X.sr
   iterate 3 refine Ex.pu ?_
   apply Ex.nil
   refine X.ret ?_
   refine RetQ.imp (Imp.freeze (k := 40) rfl) ?_
   refine RetQ.ret (.many (by decide) (.cons (.tmp rfl (LeV.eq ?_)) (.cons (.tmp rfl (LeV.eq ?_)) .nil)))
   all_goals (first | (rw [hV]; done) | (rw [hE, h15]; done) | exact congrArg (fun z => rdgsA z) hW | exact congrArg (fun z => AV.int .i64 z) hE.symm)
end Go.Rse
namespace Go.Rse
open Go Go.Proofs
attribute [local irreducible] Pur StepA StepM Ex X Fn Imp LeV LeB FnO It YStep FnW FnOW
theorem cmL_or (m : Mn) : ∀ (L : List Int) (l : List Par), (cmL m L l).2 = 0 \/ (cmL m L l).2 = 15
 | [], _ => .inl rfl
 | k :: r, l => by
  simp only [cmL]; split
  ·exact cmL_or m r _
  ·exact .inr rfl
theorem cmE_or (m : Mn) (l : List Sg) (n : Int) : cmE m l n = 0 \/ cmE m l n = 15 := cmL_or _ _ _
theorem aqN_s (m : Mn) (l : List Sg) (n : Nat) : aqN m l n ++ cmV m l (n : Int) = aqN m l (n + 1) := rfl
theorem ict_ck {m : Mn} {l : List Sg} (h : ictE m l = 0) : ckM m = 0 /\ ckD m l = 0 := ⟨(ckD_zero (ict_0 h).1).1, (ict_0 h).1⟩
attribute [local irreducible] cmV cmE iofD iofM perfL ictE ictV aqN aqX aqE aqV
theorem C_choices_Combos (m : Mn) (l : List Sg) (hl : l.length <= 1000) : Fn Tryz.prog 102 [mnA m, sgsA l] (.tup [iv (ictV m l), iv (ictE m l)]) := by
 refine Fn.go Tryz.func102 Tryz.ntmps102 (fun g w d => ?_)
 apply X.sr
 refine Ex.ba ?_
 iterate 2 refine Ex.pu ?_
 apply Ex.ns
 iterate 2 refine Ex.pu ?_
 refine Ex.ca (C_item_Count m l hl) ?_
 iterate 4 refine Ex.pu ?_
 apply Ex.nil
 refine X.ret ?_
 refine RetQ.ret (.many (by decide) (.cons (.tmp rfl (LeV.eq ?_)) (.cons (.tmp rfl (LeV.eq ?_)) .nil)))
 all_goals (first | rfl | (simp_all; done))
set_option maxHeartbeats 4000000 in
theorem C_choices_All (m : Mn) (l : List Sg) (hl : l.length <= 1000) : Fn Tryz.prog 47 [mnA m, sgsA l] (.tup [rdgsA (aqV m l), iv (aqE m l)]) := by
 have hz0 : [] = aqN m l 0 := by unfold aqN; rfl
 refine Fn.go Tryz.func47 Tryz.ntmps47 (fun g w d => ?_)
 apply X.sr
 refine Ex.ba ?_
 iterate 2 refine Ex.pu ?_
 apply Ex.ns
 iterate 2 refine Ex.pu ?_
 refine Ex.ca (C_choices_Combos m l hl) ?_
 iterate 5 refine Ex.pu ?_
 apply Ex.nil
 apply X.seq
 apply X.sr
 iterate 2 refine Ex.pu ?_
 apply Ex.nil
 refine X.cd rfl (fun hc1 => ?_) (fun hc1 => ?_)
 ·have hZ1 := aq_a hc1
  obtain ⟨hE, hV⟩ := hZ1
  apply X.sr
  iterate 3 refine Ex.pu ?_
  apply Ex.nil
  refine X.ret ?_
  refine RetQ.imp (Imp.au (ts := [(4, rdgsA []), (5, iv (ictE m l))]) (hs := [])) ?_
  refine RetQ.ret (.many (by decide) (.cons (.tmp rfl (LeV.eq ?_)) (.cons (.tmp rfl (LeV.eq ?_)) .nil)))
  all_goals (first | (rw [hV]; done) | (rw [hE, h15]; done) | (rw [hE]; done) | exact congrArg (fun z => rdgsA z) hV | exact congrArg (fun z => AV.int .i64 z) hE.symm)
 have h0 : ictE m l = 0 := by omega
 have hZ2 := ict_ck h0
 obtain ⟨hM, hck⟩ := hZ2
 have hrg := ict_rng hM h0
 apply X.skip
 apply X.sr
 refine Ex.pu ?_
 apply Ex.nil
 apply X.seq
 apply X.seq
 refine X.imp (Imp.mkrow rdgE 41 4 8 30 rfl rfl) ?_
 apply X.region
 iterate 2 refine Ex.pu ?_
 apply Ex.nil
 apply X.block
 refine X.lp (ι := Nat) (fun (k : Nat) => [(1, sgsA l), (2, .ptr 2 0 0 0), (8, .own 30), (21, iv (ictV m l)), (22, iv (k : Int))]) (fun (k : Nat) => [(2, .box (mnE m) 23), (30, .row rdgE (aqN m l k) 41 4)]) (fun (k : Nat) => k <= (ictV m l).toNat /\ aqX m l k = true) (fun (k : Nat) => (ictV m l).toNat - k) 0 (fun k hk => ?_) (hJ := by
  exact ⟨Nat.zero_le _, by unfold aqX; rfl⟩) (h0 := by
  exact Imp.ax)
 obtain ⟨hk1, hX⟩ := hk
 apply X.sr
 refine Ex.pu ?_
 apply Ex.nil
 apply X.seq
 refine X.cd rfl (fun hc2 => ?_) (fun hc2 => ?_)
 ·have hkn : (k : Int) < ictV m l := by omega
  have hie := iof_ok h0 hkn
  have hit := itm_ok hM hck hie
  have hsn := aqN_s m l k
  have hln := aqX_len hX
  have hcl := cmV_le m hl (k : Int)
  apply X.skip
  apply X.seq
  apply X.block
  apply X.sr
  iterate 2 refine Ex.pu ?_
  apply Ex.ns
  iterate 3 refine Ex.pu ?_
  refine Ex.ca (C_choices_combo m l (k : Int) hl hM hie hit) ?_
  iterate 5 refine Ex.pu ?_
  apply Ex.nil
  apply X.seq
  apply X.sr
  iterate 2 refine Ex.pu ?_
  apply Ex.nil
  refine X.cd rfl (fun hc3 => ?_) (fun hc3 => ?_)
  ·have hZ3 := aq_b h0 hkn (.inl hc3)
   obtain ⟨hE, hV⟩ := hZ3
   have h15 := (cmE_or m l (k : Int)).resolve_left hc3
   apply X.sr
   iterate 3 refine Ex.pu ?_
   apply Ex.nil
   refine X.ret ?_
   refine RetQ.imp (Imp.au (ts := [(4, rdgsA []), (5, iv (cmE m l (k : Int)))]) (hs := [])) ?_
   refine RetQ.ret (.many (by decide) (.cons (.tmp rfl (LeV.eq ?_)) (.cons (.tmp rfl (LeV.eq ?_)) .nil)))
   all_goals (first | (rw [hV]; done) | (rw [hE, h15]; done) | (rw [hE]; done) | exact congrArg (fun z => rdgsA z) hV | exact congrArg (fun z => AV.int .i64 z) hE.symm)
  have hc0 : cmE m l (k : Int) = 0 := by omega
  apply X.skip
  apply X.sr
  iterate 2 refine Ex.pu ?_
  refine Ex.mo ?_
  refine Ex.pu ?_
  apply Ex.ns
  iterate 3 refine Ex.pu ?_
  apply Ex.nil
  refine X.cd rfl (fun hc4 => ?_) (fun hc4 => ?_)
  ·have hl4 : 4096 < (aqN m l (k + 1)).length := by rw [← hsn]; omega
   have hZ4 := aq_b h0 hkn (.inr hl4)
   obtain ⟨hE, hV⟩ := hZ4
   apply X.sr
   iterate 2 refine Ex.pu ?_
   apply Ex.nil
   refine X.ret ?_
   refine RetQ.imp (Imp.au (ts := [(4, rdgsA []), (5, iv 15)]) (hs := [])) ?_
   refine RetQ.ret (.many (by decide) (.cons (.tmp rfl (LeV.eq ?_)) (.cons (.tmp rfl (LeV.eq ?_)) .nil)))
   all_goals (first | (rw [hV]; done) | (rw [hE, h15]; done) | (rw [hE]; done) | exact congrArg (fun z => rdgsA z) hV | exact congrArg (fun z => AV.int .i64 z) hE.symm)
  have hl4 : (aqN m l (k + 1)).length <= 4096 := by rw [← hsn]; omega
  apply X.skip
  apply X.region
  iterate 2 refine Ex.pu ?_
  apply Ex.nil
  refine X.bk (k + 1) (hJ := by
   exact ⟨by omega, aq_s hX hc0 hl4⟩) (hI := Imp.ax)
 ·obtain rfl : k = (ictV m l).toNat := by omega
  apply X.exit
  apply X.seq
  apply X.sr
  iterate 3 refine Ex.pu ?_
  apply Ex.nil
  refine X.cd rfl (fun hc5 => ?_) (fun hc5 => ?_)
  ·have hZ5 := aq_c h0 rfl hX (by omega)
   obtain ⟨hE, hV⟩ := hZ5
   apply X.sr
   iterate 2 refine Ex.pu ?_
   apply Ex.nil
   refine X.ret ?_
   refine RetQ.imp (Imp.au (ts := [(4, rdgsA []), (5, iv 14)]) (hs := [])) ?_
   refine RetQ.ret (.many (by decide) (.cons (.tmp rfl (LeV.eq ?_)) (.cons (.tmp rfl (LeV.eq ?_)) .nil)))
   all_goals (first | (rw [hV]; done) | (rw [hE, h15]; done) | (rw [hE]; done) | exact congrArg (fun z => rdgsA z) hV | exact congrArg (fun z => AV.int .i64 z) hE.symm)
  have hZ6 := aq_d h0 rfl hX (by omega)
  obtain ⟨hE, hV⟩ := hZ6
  apply X.skip
  apply X.sr
  iterate 3 refine Ex.pu ?_
  apply Ex.nil
  refine X.ret ?_
  refine RetQ.imp (Imp.freeze (k := 30) rfl) ?_
  refine RetQ.ret (.many (by decide) (.cons (.tmp rfl (LeV.eq ?_)) (.cons (.tmp rfl (LeV.eq ?_)) .nil)))
  all_goals (first | (rw [hV]; done) | (rw [hE, h15]; done) | (rw [hE]; done) | exact congrArg (fun z => rdgsA z) hV | exact congrArg (fun z => AV.int .i64 z) hE.symm)
theorem C_choices_Count (m : Mn) (l : List Sg) (hl : l.length <= 1000) : Fn Tryz.prog 51 [mnA m, sgsA l] (.tup [iv ((aqV m l).length : Int), iv (aqE m l)]) := by
 have hln := aqV_len m l
 refine Fn.go Tryz.func51 Tryz.ntmps51 (fun g w d => ?_)
 apply X.sr
 refine Ex.ba ?_
 iterate 2 refine Ex.pu ?_
 apply Ex.ns
 iterate 2 refine Ex.pu ?_
 refine Ex.ca (C_choices_All m l hl) ?_
 iterate 5 refine Ex.pu ?_
 apply Ex.ns
 iterate 5 refine Ex.pu ?_
 apply Ex.nil
 refine X.ret ?_
 refine RetQ.ret (.many (by decide) (.cons (.tmp rfl (LeV.eq ?_)) (.cons (.tmp rfl (LeV.eq ?_)) .nil)))
 all_goals (first | rfl | (simp_all; done))
end Go.Rse
namespace Go.Rse
open Go Go.Proofs
section
variable {m : Mn} {k : Int} {I : List Ite} {l : List Par}
end
section
variable {m : Mn} {l : List Sg}
end
def isG (m : Mn) : List Int -> List Ite -> List Int -> Option (List Ite × List Int)
 | [], I, C => some (I, C)
 | k :: r, I, C => if segE m k I = 0 /\ (segV m k I).length <= C.length /\ apE m k I (C.take (segV m k I).length) = 0 then isG m r (apV m k I (C.take (segV m k I).length)) (C.drop (segV m k I).length) else none
def isqB (m : Mn) (l : List Sg) (r : Rdg) : Bool := decide (itmE m l r.Dots r.Minor = 0) && (match isG m (perfL m) (itmV m l r.Dots r.Minor) r.Choices with
 | some (J, D) => decide (D = []) && decide (J.map (·.Dur) = r.Durs)
 | none => false)
end Go.Rse
