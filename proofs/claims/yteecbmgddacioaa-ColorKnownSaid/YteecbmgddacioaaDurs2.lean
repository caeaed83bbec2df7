/-
  Walks: the durations of a run's notes and rests.
-/
import Derived.Test.YteecbmgddacioaaDurs1
import Derived.Test.YteecbmgddacioaaRse34
namespace Go.Rse
open Go Go.Proofs
set_option linter.unusedVariables false
set_option linter.unusedSimpArgs false
attribute [local irreducible] Pur StepA StepM Ex X ExG Fn Imp LeV LeB FnO It YStep
theorem map_ok : mpOk Try.prog 123 3 26 := ⟨by kernel_rfl, _, Try.underlying3⟩
theorem map_int : ∃ d, Try.prog.underlying 3 = some (.int d) ∧ d = .i64 := ⟨_, Try.underlying3, rfl⟩
attribute [local irreducible] pairB pairK pairL isPair ckD prL twos markK refT dvK mget mput bsT duE duV fullT durT clr
set_option maxHeartbeats 2000000 in
theorem C_color_Durs (m : Mn) (l : List Sg) (mi : List Int) (hl : l.length ≤ 1000) (hmi : mi.length ≤ 1000) : Fn Try.prog 70 [mnA m, sgsA l, intsA mi] (.tup [tmsA (duV m l mi), iv (duE m l mi)]) := by
  have hpl := prL_len m l
  have hm0 : [] = markK (prL m l) mi 0 := by unfold markK; rfl
  refine Fn.go Try.func70 Try.ntmps70 (fun g w d => ?_)
  refine X.seq ?_
  refine X.region ?_
  refine Ex.ba ?_
  iterate 2 refine Ex.pu ?_
  refine Ex.nil ?_
  refine X.seq ?_
  refine X.region ?_
  iterate 2 refine Ex.pu ?_
  refine Ex.co [(39, 39)] (C_color_Pairs' m l hl) ?_
  iterate 5 refine Ex.pu ?_
  refine Ex.nil ?_
  refine X.seq ?_
  refine X.seq ?_
  refine X.region ?_
  iterate 2 refine Ex.pu ?_
  refine Ex.nil ?_
  refine X.cd rfl (fun hc1 => ?_) (fun hc1 => ?_)
  · have hE := duE_0 (mi := mi) hc1
    have hV := duV_n hE hc1
    refine X.seq ?_
    refine X.region ?_
    iterate 3 refine Ex.pu ?_
    refine Ex.nil ?_
    refine X.ret ?_
    refine RetQ.imp (Imp.au (ts := [(6, tmsA []), (7, iv (ckD m l))]) (hs := [])) ?_
    refine RetQ.ret (.many (by decide) (.cons (.tmp rfl (LeV.eq ?_)) (.cons (.tmp rfl (LeV.eq ?_)) .nil)))
    all_goals (first | exact congrArg tmsA hV | exact congrArg (AV.int .i64) hE)
  refine X.skip ?_
  refine X.seq ?_
  refine X.seq ?_
  refine X.imp (Imp.freeze (k := 39) rfl) ?_
  refine X.region ?_
  iterate 5 refine Ex.pu ?_
  refine Ex.nil ?_
  refine X.cd rfl (fun hc2 => ?_) (fun hc2 => ?_)
  · have hE := duE_1 (mi := mi) hc1 (by omega)
    have hV := duV_n hE (by decide)
    refine X.seq ?_
    refine X.region ?_
    iterate 2 refine Ex.pu ?_
    refine Ex.nil ?_
    refine X.ret ?_
    refine RetQ.imp (Imp.au (ts := [(6, tmsA []), (7, iv 2)]) (hs := [])) ?_
    refine RetQ.ret (.many (by decide) (.cons (.tmp rfl (LeV.eq ?_)) (.cons (.tmp rfl (LeV.eq ?_)) .nil)))
    all_goals (first | exact congrArg tmsA hV | exact congrArg (AV.int .i64) hE)
  refine X.skip ?_
  refine X.seq ?_
  refine X.region ?_
  refine Ex.stepA (A_makeMap (k := 32) (fun i : Int => iv i) tmA) rfl rfl ?_
  refine Ex.pu ?_
  refine Ex.nil ?_
  refine X.seq ?_
  refine X.seq ?_
  refine X.region ?_
  iterate 3 refine Ex.pu ?_
  refine Ex.nil ?_
  refine X.block ?_
  refine X.lp (ι := Nat) (fun (k : Nat) => [(1, sgsA l), (2, intsA mi), (3, .ptr 3 0 0 0), (10, .mp 32), (33, intsA (prL m l)), (34, iv (prL m l).length), (35, iv (k : Int))]) (fun (k : Nat) => [(3, .box (mnE m) 23), (32, .mpb (fun i : Int => iv i) tmA (markK (prL m l) mi k))]) (fun (k : Nat) => k ≤ (prL m l).length ∧ mnK mi k) (fun (k : Nat) => (prL m l).length - k) 0 (fun k hk => ?_) (hJ := by
    exact ⟨by omega, mnK_0 mi⟩) (h0 := by
    exact Imp.ax)
  obtain ⟨hk1, hk2⟩ := hk
  refine X.seq ?_
  refine X.region ?_
  refine Ex.pu ?_
  refine Ex.nil ?_
  refine X.seq ?_
  refine X.cd rfl (fun hc3 => ?_) (fun hc3 => ?_)
  · obtain ⟨x, hx⟩ : ∃ x, (prL m l)[k]? = some x := ⟨_, List.getElem?_eq_getElem (by omega)⟩
    have hx2 : (prL m l)[(k : Int).toNat]? = some x := by simpa using hx
    have hxb := prL_in hx
    obtain ⟨y, hy⟩ : ∃ y, mi[k]? = some y := ⟨_, List.getElem?_eq_getElem (by omega)⟩
    have hy2 : mi[(k : Int).toNat]? = some y := by simpa using hy
    refine X.skip ?_
    refine X.seq ?_
    refine X.block ?_
    refine X.seq ?_
    refine X.region ?_
    iterate 5 refine Ex.pu ?_
    refine Ex.nil ?_
    refine X.seq ?_
    refine X.region ?_
    iterate 4 refine Ex.pu ?_
    refine Ex.nil ?_
    refine X.block ?_
    refine X.seq ?_
    refine X.region ?_
    iterate 2 refine Ex.pu ?_
    refine Ex.nil ?_
    refine X.cd rfl (fun hc4 => ?_) (fun hc4 => ?_)
    · have hst := markK_one (p := prL m l) hy hc4
      refine X.skip ?_
      refine X.region ?_
      iterate 2 refine Ex.pu ?_
      refine Ex.nil ?_
      refine X.bk (k + 1) (hJ := by
        exact ⟨by omega, mnK_s hk2 hy (by omega)⟩) (hI := Imp.ax)
    · refine X.seq ?_
      refine X.region ?_
      iterate 2 refine Ex.pu ?_
      refine Ex.nil ?_
      refine X.cd rfl (fun hc5 => ?_) (fun hc5 => ?_)
      · have hst := markK_two hx hy hc5
        refine X.region ?_
        iterate 7 refine Ex.pu ?_
        refine Ex.stepM (M_mapUpdate (venc := tmA) ⟨3, 2⟩ rfl rfl rfl rfl rfl map_ok map_int (fun _ _ => rfl)) ?_
        refine Ex.stepM (M_mapUpdate (venc := tmA) ⟨1, 2⟩ rfl rfl rfl rfl rfl map_ok map_int (fun _ _ => rfl)) ?_
        refine Ex.nil ?_
        refine X.region ?_
        iterate 2 refine Ex.pu ?_
        refine Ex.nil ?_
        refine X.bk (k + 1) (hJ := by
          exact ⟨by omega, mnK_s hk2 hy (by omega)⟩) (hI := Imp.ax)
      · have hE := duE_2 hc1 (mnOk_bad hy hc4 hc5)
        have hV := duV_n hE (by decide)
        refine X.seq ?_
        refine X.region ?_
        iterate 2 refine Ex.pu ?_
        refine Ex.nil ?_
        refine X.ret ?_
        refine RetQ.imp (Imp.au (ts := [(6, tmsA []), (7, iv 2)]) (hs := [])) ?_
        refine RetQ.ret (.many (by decide) (.cons (.tmp rfl (LeV.eq ?_)) (.cons (.tmp rfl (LeV.eq ?_)) .nil)))
        all_goals (first | exact congrArg tmsA hV | exact congrArg (AV.int .i64) hE)
  · have hkl : k = (prL m l).length := by omega
    subst hkl
    have hok : mnOk mi = true := mnK_ok (by rw [show mi.length = (prL m l).length by omega]; exact hk2)
    have hE := duE_3 hc1 (by omega) hok
    have hV := duV_y hE
    have hd0 : [] = dvK m l (duM m l mi) 0 := by unfold dvK; rfl
    refine X.exit ?_
    refine X.seq ?_
    refine X.region ?_
    refine Ex.pu ?_
    refine Ex.nil ?_
    refine X.seq ?_
    refine X.seq ?_
    refine X.imp (Imp.mkrow tmE 26 2 13 13 rfl rfl) ?_
    refine X.region ?_
    iterate 3 refine Ex.pu ?_
    refine Ex.nil ?_
    refine X.block ?_
    refine X.lp (ι := Nat) (fun (k : Nat) => [(3, .ptr 3 0 0 0), (10, .mp 32), (13, .own 13), (56, sgsA l), (57, iv l.length), (58, iv (k : Int))]) (fun (k : Nat) => [(3, .box (mnE m) 23), (32, .mpb (fun i : Int => iv i) tmA (duM m l mi)), (13, .row tmE (dvK m l (duM m l mi) k) 26 2)]) (fun (k : Nat) => k ≤ l.length) (fun (k : Nat) => l.length - k) 0 (fun k hk => ?_) (h0 := by
      exact Imp.ax)
    refine X.seq ?_
    refine X.region ?_
    refine Ex.pu ?_
    refine Ex.nil ?_
    refine X.seq ?_
    refine X.cd rfl (fun hc6 => ?_) (fun hc6 => ?_)
    · obtain ⟨s, hs⟩ : ∃ s, l[k]? = some s := ⟨_, List.getElem?_eq_getElem (by omega)⟩
      have hs2 : l[(k : Int).toNat]? = some s := by simpa using hs
      have hlen := dvK_len m l (duM m l mi) k
      refine X.skip ?_
      refine X.seq ?_
      refine X.block ?_
      refine X.seq ?_
      refine X.region ?_
      iterate 3 refine Ex.pu ?_
      refine Ex.al ?_
      refine Ex.pu ?_
      refine Ex.mo ?_
      refine Ex.nil ?_
      refine X.seq ?_
      refine X.region ?_
      iterate 2 refine Ex.pu ?_
      refine Ex.pu (hs := P_lookup (venc := tmA) tmZ rfl rfl rfl map_ok map_int (fun _ _ => rfl) (tmZ_zero ze26)) ?_
      iterate 3 refine Ex.pu ?_
      refine Ex.al ?_
      refine Ex.mo ?_
      refine Ex.pu ?_
      refine Ex.nil ?_
      refine X.seq ?_
      refine X.block ?_
      refine X.seq ?_
      refine X.region ?_
      iterate 4 refine Ex.pu ?_
      refine Ex.nil ?_
      refine X.cd rfl (fun hc7 => ?_) (fun hc7 => ?_)
      · have hrow := dvK_dot (m := m) (M := duM m l mi) hs hc7
        refine X.exit ?_
        refine X.region ?_
        iterate 2 refine Ex.pu ?_
        refine Ex.nil ?_
        refine X.bk (k + 1) (hI := Imp.ax)
      have hval := ckFrom_val hc1 hs hc7
      have hrow := dvK_nr (m := m) (M := duM m l mi) hs hc7
      refine X.seq ?_
      refine X.region ?_
      iterate 2 refine Ex.pu ?_
      refine Ex.nil ?_
      refine X.cd rfl (fun hc8 => ?_) (fun hc8 => ?_)
      · rw [← get_is (z := tmZ) hc8] at hrow
        refine X.skip ?_
        refine X.region ?_
        iterate 2 refine Ex.pu ?_
        refine Ex.bs tmE [⟨_, _⟩] ?_
        refine Ex.mo ?_
        refine Ex.pu ?_
        refine Ex.nil ?_
        refine X.region ?_
        iterate 2 refine Ex.pu ?_
        refine Ex.nil ?_
        refine X.bk (k + 1) (hI := Imp.ax)
      · refine X.seq ?_
        refine X.region ?_
        refine Ex.pu ?_
        refine Ex.ca (C_color_colored _) ?_
        refine Ex.pu ?_
        refine Ex.nil ?_
        refine X.cd rfl (fun hc9 => ?_) (fun hc9 => ?_)
        · rw [← get_no hc8, ← bsT_c hc9] at hrow
          refine X.region ?_
          iterate 3 refine Ex.pu ?_
          refine Ex.ca (C_color_dur m hval.1 s.Value hval.2.1 hval.2.2) ?_
          refine Ex.mo ?_
          refine Ex.nil ?_
          refine X.region ?_
          iterate 2 refine Ex.pu ?_
          refine Ex.bs tmE [⟨_, _⟩] ?_
          refine Ex.mo ?_
          refine Ex.pu ?_
          refine Ex.nil ?_
          refine X.region ?_
          iterate 2 refine Ex.pu ?_
          refine Ex.nil ?_
          refine X.bk (k + 1) (hI := Imp.ax)
        · rw [← get_no hc8, ← bsT_n hc9] at hrow
          refine X.region ?_
          iterate 3 refine Ex.pu ?_
          refine Ex.ca (C_mens_FullV hval.1 hval.2.1 hval.2.2) ?_
          iterate 3 refine Ex.pu ?_
          refine Ex.mo ?_
          refine Ex.nil ?_
          refine X.region ?_
          iterate 2 refine Ex.pu ?_
          refine Ex.bs tmE [⟨_, _⟩] ?_
          refine Ex.mo ?_
          refine Ex.pu ?_
          refine Ex.nil ?_
          refine X.region ?_
          iterate 2 refine Ex.pu ?_
          refine Ex.nil ?_
          refine X.bk (k + 1) (hI := Imp.ax)
    · have hkl2 : k = l.length := by omega
      subst hkl2
      refine X.exit ?_
      refine X.seq ?_
      refine X.region ?_
      iterate 3 refine Ex.pu ?_
      refine Ex.nil ?_
      refine X.ret ?_
      refine RetQ.imp (Imp.freeze (k := 13) rfl) ?_
      refine RetQ.ret (.many (by decide) (.cons (.tmp rfl (LeV.eq ?_)) (.cons (.tmp rfl (LeV.eq ?_)) .nil)))
      all_goals (first | exact congrArg tmsA hV | exact congrArg (AV.int .i64) hE)
set_option maxHeartbeats 2000000 in
theorem C_tactusref11_Durs (m : Mn) (l : List Sg) (mi : List Int) (hl : l.length ≤ 1000) (hmi : mi.length ≤ 1000) : Fn Try.prog 91 [mnA m, sgsA l, intsA mi] (.tup [tmsA (duV m l mi), iv (duE m l mi)]) := by
  have hpl := prL_len m l
  refine Fn.go Try.func91 Try.ntmps91 (fun g w d => ?_)
  refine X.seq ?_
  refine X.region ?_
  refine Ex.ba ?_
  iterate 2 refine Ex.pu ?_
  refine Ex.nil ?_
  refine X.seq ?_
  refine X.region ?_
  iterate 2 refine Ex.pu ?_
  refine Ex.ca (C_tactusref11_Pairs' m l hl) ?_
  iterate 5 refine Ex.pu ?_
  refine Ex.nil ?_
  refine X.seq ?_
  refine X.seq ?_
  refine X.region ?_
  iterate 2 refine Ex.pu ?_
  refine Ex.nil ?_
  refine X.cd rfl (fun hc1 => ?_) (fun hc1 => ?_)
  · have hE := duE_0 (mi := mi) hc1
    have hV := duV_n hE hc1
    refine X.seq ?_
    refine X.region ?_
    iterate 3 refine Ex.pu ?_
    refine Ex.nil ?_
    refine X.ret ?_
    refine RetQ.imp (Imp.au (ts := [(6, tmsA []), (7, iv (ckD m l))]) (hs := [])) ?_
    refine RetQ.ret (.many (by decide) (.cons (.tmp rfl (LeV.eq ?_)) (.cons (.tmp rfl (LeV.eq ?_)) .nil)))
    all_goals (first | exact congrArg tmsA hV | exact congrArg (AV.int .i64) hE)
  refine X.skip ?_
  refine X.seq ?_
  refine X.seq ?_
  refine X.region ?_
  iterate 5 refine Ex.pu ?_
  refine Ex.nil ?_
  refine X.cd rfl (fun hc2 => ?_) (fun hc2 => ?_)
  · have hE := duE_1 (mi := mi) hc1 (by omega)
    have hV := duV_n hE (by decide)
    refine X.seq ?_
    refine X.region ?_
    iterate 2 refine Ex.pu ?_
    refine Ex.nil ?_
    refine X.ret ?_
    refine RetQ.imp (Imp.au (ts := [(6, tmsA []), (7, iv 2)]) (hs := [])) ?_
    refine RetQ.ret (.many (by decide) (.cons (.tmp rfl (LeV.eq ?_)) (.cons (.tmp rfl (LeV.eq ?_)) .nil)))
    all_goals (first | exact congrArg tmsA hV | exact congrArg (AV.int .i64) hE)
  refine X.skip ?_
  refine X.seq ?_
  refine X.seq ?_
  refine X.region ?_
  refine Ex.pu ?_
  refine Ex.nil ?_
  refine X.block ?_
  refine X.lp (ι := Nat) (fun (k : Nat) => [(1, sgsA l), (2, intsA mi), (3, .ptr 3 0 0 0), (8, intsA (prL m l)), (10, iv (k : Int))]) (fun (k : Nat) => [(3, .box (mnE m) 23)]) (fun (k : Nat) => k ≤ mi.length ∧ mnK mi k) (fun (k : Nat) => mi.length - k) 0 (fun k hk => ?_) (hJ := by
    exact ⟨by omega, mnK_0 mi⟩)
  obtain ⟨hk1, hk2⟩ := hk
  refine X.seq ?_
  refine X.seq ?_
  refine X.region ?_
  iterate 4 refine Ex.pu ?_
  refine Ex.nil ?_
  refine X.cd rfl (fun hc3 => ?_) (fun hc3 => ?_)
  · obtain ⟨y, hy⟩ : ∃ y, mi[k]? = some y := ⟨_, List.getElem?_eq_getElem (by omega)⟩
    have hy2 : mi[(k : Int).toNat]? = some y := by simpa using hy
    refine X.skip ?_
    refine X.seq ?_
    refine X.block ?_
    refine X.seq ?_
    refine X.region ?_
    iterate 5 refine Ex.pu ?_
    refine ExF.at 5 ?_
    refine ExF.pu ?_
    iterate 5 refine ExF.gi ?_
    refine ExF.done ?_
    refine Ex.pu ?_
    refine Ex.nil ?_
    refine X.cd rfl (fun hc4 => ?_) (fun hc4 => ?_)
    · have hE := duE_2 hc1 (mnOk_bad hy hc4.1 hc4.2)
      have hV := duV_n hE (by decide)
      refine X.seq ?_
      refine X.region ?_
      iterate 2 refine Ex.pu ?_
      refine Ex.nil ?_
      refine X.ret ?_
      refine RetQ.imp (Imp.au (ts := [(6, tmsA []), (7, iv 2)]) (hs := [])) ?_
      refine RetQ.ret (.many (by decide) (.cons (.tmp rfl (LeV.eq ?_)) (.cons (.tmp rfl (LeV.eq ?_)) .nil)))
      all_goals (first | exact congrArg tmsA hV | exact congrArg (AV.int .i64) hE)
    refine X.skip ?_
    refine X.region ?_
    iterate 3 refine Ex.pu ?_
    refine Ex.nil ?_
    refine X.bk (k + 1) (hJ := by
      exact ⟨by omega, mnK_s hk2 hy (by omega)⟩)
  · have hkl : k = mi.length := by omega
    subst hkl
    have hok : mnOk mi = true := mnK_ok hk2
    have hE := duE_3 hc1 (by omega) hok
    have hV := duV_y hE
    have hd0 : [] = dvK m l (duM m l mi) 0 := by unfold dvK; rfl
    refine X.exit ?_
    refine X.seq ?_
    refine X.region ?_
    refine Ex.pu ?_
    refine Ex.nil ?_
    refine X.seq ?_
    refine X.seq ?_
    refine X.imp (Imp.mkrow tmE 26 2 11 11 rfl rfl) ?_
    refine X.region ?_
    refine Ex.pu ?_
    refine Ex.nil ?_
    refine X.block ?_
    refine X.lp (ι := Nat) (fun (k : Nat) => [(1, sgsA l), (2, intsA mi), (3, .ptr 3 0 0 0), (8, intsA (prL m l)), (11, .own 11), (12, iv (k : Int))]) (fun (k : Nat) => [(3, .box (mnE m) 23), (11, .row tmE (dvK m l (duM m l mi) k) 26 2)]) (fun (k : Nat) => k ≤ l.length) (fun (k : Nat) => l.length - k) 0 (fun k hk => ?_) (h0 := by
      exact Imp.ax)
    refine X.seq ?_
    refine X.seq ?_
    refine X.region ?_
    iterate 4 refine Ex.pu ?_
    refine Ex.nil ?_
    refine X.cd rfl (fun hc5 => ?_) (fun hc5 => ?_)
    · obtain ⟨s, hs⟩ : ∃ s, l[k]? = some s := ⟨_, List.getElem?_eq_getElem (by omega)⟩
      have hs2 : l[(k : Int).toNat]? = some s := by simpa using hs
      have hlen := dvK_len m l (duM m l mi) k
      refine X.skip ?_
      refine X.seq ?_
      refine X.block ?_
      refine X.seq ?_
      refine X.seq ?_
      refine X.region ?_
      iterate 6 refine Ex.pu ?_
      refine Ex.nil ?_
      refine X.cd rfl (fun hc6 => ?_) (fun hc6 => ?_)
      · have hrow := dvK_dot (m := m) (M := duM m l mi) hs hc6
        refine X.exit ?_
        refine X.region ?_
        iterate 3 refine Ex.pu ?_
        refine Ex.nil ?_
        refine X.bk (k + 1) (hI := Imp.ax)
      have hval := ckFrom_val hc1 hs hc6
      refine X.skip ?_
      refine X.seq ?_
      refine X.dw [13,60,61,62,63,64,65,66,67,68,69] [0,0,0,6,14,30,63,127,255,255,0,1535,4095] mo ?_
      iterate 6 refine ChM.pu ?_
      refine ChM.ca (C_tactusref05_FullV hval.1 hval.2.1 hval.2.2) ?_
      iterate 3 refine ChM.pu ?_
      refine ChM.step rfl rfl rfl (A_alloc (k := 13) zc26) rfl ?_
      refine ChM.ltJ 9 ⟨[(1, sgsA l), (2, intsA mi), (3, .ptr 3 0 0 0), (8, intsA (prL m l)), (11, .own 11), (12, iv (k : Int)), (13, .ptr 13 0 0 0)], [(3, .box (mnE m) 23), (11, .row tmE (dvK m l (duM m l mi) k) 26 2), (13, .box (tmE (fullT m s.Value)) 26)]⟩ (fun Q hQ => ?_) (fun Q hQ => ?_) ?_
      · refine Ex.mo ?_
        refine Ex.pu ?_
        exact Ex.imp Imp.ax hQ
      · refine Ex.mo ?_
        iterate 2 refine Ex.pu ?_
        exact Ex.imp Imp.ax hQ
      refine Ex.nil ?_
      refine X.seqJ ⟨[(1, sgsA l), (2, intsA mi), (3, .ptr 3 0 0 0), (8, intsA (prL m l)), (11, .own 11), (12, iv (k : Int)), (13, .ptr 13 0 0 0)], [(3, .box (mnE m) 23), (11, .row tmE (dvK m l (duM m l mi) k) 26 2), (13, .box (tmE (bsT m s)) 26)]⟩ (fun hJ19 => ?_) ?_
      · refine X.seq ?_
        refine X.region ?_
        iterate 4 refine Ex.pu ?_
        refine Ex.ca (C_tactusref11_colored _) ?_
        refine Ex.nil ?_
        refine X.cd rfl (fun hc7 => ?_) (fun hc7 => ?_)
        · have hb0 : tmE (durT m s.Value) = tmE (bsT m s) := congrArg tmE (bsT_c hc7)
          refine X.dw [75,76,77,78,79,80] [0,0,0,6,14,30,63,127] mo ?_
          iterate 6 refine ChM.pu ?_
          refine ChM.tl ?_
          refine Ex.ca (C_tactusref11_dur m hval.1 s.Value hval.2.1 hval.2.2) ?_
          refine Ex.mo ?_
          refine Ex.nil ?_
          exact X.imp Imp.ax hJ19
        · have hb0 : tmE (fullT m s.Value) = tmE (bsT m s) := congrArg tmE (bsT_n hc7)
          refine X.skip ?_
          exact X.imp Imp.ax hJ19
      refine X.seq ?_
      refine X.seq ?_
      refine X.region ?_
      refine Ex.pu ?_
      refine Ex.nil ?_
      refine X.block ?_
      have hr0 : tmE (bsT m s) = tmE (refT (prL m l) mi (k : Int) (bsT m s) 0) := congrArg tmE (refT_0 _ _ _ _)
      refine X.lp (ι := Nat) (fun (j : Nat) => [(1, sgsA l), (2, intsA mi), (3, .ptr 3 0 0 0), (8, intsA (prL m l)), (11, .own 11), (12, iv (k : Int)), (13, .ptr 13 0 0 0), (15, iv (j : Int))]) (fun (j : Nat) => [(3, .box (mnE m) 23), (11, .row tmE (dvK m l (duM m l mi) k) 26 2), (13, .box (tmE (refT (prL m l) mi (k : Int) (bsT m s) j)) 26)]) (fun (j : Nat) => j ≤ (prL m l).length) (fun (j : Nat) => (prL m l).length - j) 0 (fun j hk => ?_) (h0 := by
        exact Imp.ax)
      refine X.seq ?_
      refine X.seq ?_
      refine X.region ?_
      iterate 4 refine Ex.pu ?_
      refine Ex.nil ?_
      refine X.cd rfl (fun hc8 => ?_) (fun hc8 => ?_)
      · obtain ⟨x, hx⟩ : ∃ x, (prL m l)[j]? = some x := ⟨_, List.getElem?_eq_getElem (by omega)⟩
        have hx2 : (prL m l)[(j : Int).toNat]? = some x := by simpa using hx
        have hxb := prL_in hx
        obtain ⟨y, hy⟩ : ∃ y, mi[j]? = some y := ⟨_, List.getElem?_eq_getElem (by omega)⟩
        have hy2 : mi[(j : Int).toNat]? = some y := by simpa using hy
        refine X.skip ?_
        refine X.seq ?_
        refine X.block ?_
        refine X.block ?_
        refine X.seq ?_
        refine X.region ?_
        iterate 5 refine Ex.pu ?_
        refine ExF.at 5 ?_
        refine ExF.pu ?_
        iterate 6 refine ExF.gi ?_
        refine ExF.done ?_
        iterate 2 refine Ex.pu ?_
        refine Ex.nil ?_
        refine X.cd rfl (fun hc9 => ?_) (fun hc9 => ?_)
        · have hst : tmE ⟨3, 2⟩ = tmE (refT (prL m l) mi (k : Int) (bsT m s) (j + 1)) := congrArg tmE (refT_A hx hy hc9)
          refine X.region ?_
          refine Ex.pu ?_
          refine Ex.mo ?_
          refine Ex.nil ?_
          refine X.region ?_
          iterate 3 refine Ex.pu ?_
          refine Ex.nil ?_
          refine X.bk (j + 1) (hI := Imp.ax)
        · refine X.seq ?_
          refine X.region ?_
          iterate 5 refine Ex.pu ?_
          refine ExF.at 5 ?_
          refine ExF.pu ?_
          iterate 7 refine ExF.gi ?_
          refine ExF.done ?_
          iterate 2 refine Ex.pu ?_
          refine Ex.nil ?_
          refine X.cd rfl (fun hc10 => ?_) (fun hc10 => ?_)
          · have hst : tmE ⟨1, 2⟩ = tmE (refT (prL m l) mi (k : Int) (bsT m s) (j + 1)) := congrArg tmE (refT_B hx hy hc9 hc10)
            refine X.region ?_
            refine Ex.pu ?_
            refine Ex.mo ?_
            refine Ex.nil ?_
            refine X.region ?_
            iterate 3 refine Ex.pu ?_
            refine Ex.nil ?_
            refine X.bk (j + 1) (hI := Imp.ax)
          · have hst : tmE (refT (prL m l) mi (k : Int) (bsT m s) j) = tmE (refT (prL m l) mi (k : Int) (bsT m s) (j + 1)) := congrArg tmE (refT_C hx hy hc9 hc10)
            refine X.skip ?_
            refine X.region ?_
            iterate 3 refine Ex.pu ?_
            refine Ex.nil ?_
            refine X.bk (j + 1) (hI := Imp.ax)
      · have hjl : j = (prL m l).length := by omega
        subst hjl
        have hrow : dvK m l (duM m l mi) k ++ [refT (prL m l) mi (k : Int) (bsT m s) (prL m l).length] = dvK m l (duM m l mi) (k + 1) := by rw [refT_mark _ _ _ _ _ (Nat.le_refl _)]; exact dvK_nr hs hc6
        refine X.exit ?_
        refine X.region ?_
        iterate 2 refine Ex.pu ?_
        refine Ex.bs tmE [⟨_, _⟩] ?_
        refine Ex.mo ?_
        refine Ex.pu ?_
        refine Ex.nil ?_
        refine X.region ?_
        iterate 3 refine Ex.pu ?_
        refine Ex.nil ?_
        refine X.bk (k + 1) (hI := Imp.ax)
    · have hkl2 : k = l.length := by omega
      subst hkl2
      refine X.exit ?_
      refine X.seq ?_
      refine X.region ?_
      iterate 3 refine Ex.pu ?_
      refine Ex.nil ?_
      refine X.ret ?_
      refine RetQ.imp (Imp.freeze (k := 11) rfl) ?_
      refine RetQ.ret (.many (by decide) (.cons (.tmp rfl (LeV.eq ?_)) (.cons (.tmp rfl (LeV.eq ?_)) .nil)))
      all_goals (first | exact congrArg tmsA hV | exact congrArg (AV.int .i64) hE)
end Go.Rse
