/-
  Walks: the statement on what another meaning changes.
-/
import Derived.Test.YtmbjfeaipblfcaaGreatDoorTLaw13d
import Derived.Test.YtmbjfeaipblfcaaGreatDoorTItF2
import Derived.Test.YtmbjfeaipblfcaaGreatDoorTItC0
import Derived.Test.YtmbjfeaipblfcaaGreatDoorTRse39
namespace Go.Rse
open Go Go.Proofs
set_option linter.unusedVariables false
set_option linter.unusedSimpArgs false
attribute [local irreducible] Pur StepA StepM Ex X ExG Fn Imp LeV LeB FnO It YStep
theorem roL_dots (m : Mn) (nums : List Int) (most : Int) : DotsOk (roL m nums most) := gr_dots (roK_gr m nums most nums.length).1
theorem chg_of {m : Mn} {l : List Sg} (hM : ckM m = 0) (hck : ckD m l = 0) (hl : l.length ≤ 24) (h0 : ictE m l = 0) (o : Int) (ho : -9223372036854775808 ≤ o ∧ o ≤ 9223372036854775807) : ∃ (i : Int) (a b : List Int),
    Fn Tryz.prog 34 [iv o, iv (max 1 (ictV m l))] (iv i) ∧ Fn Tryz.prog 25 [mnA m, sgsA l, iv i] (.tup [intsA a, intsA b, iv 0]) ∧ Fn Tryz.prog 18 [mnA m, sgsA l, intsA a, intsA b] (.tup [itsA (itmV m l a b), iv 0]) ∧
    mkE m l a = 0 ∧ duE m l b = 0 ∧ a.length ≤ 24 ∧ b.length ≤ 24 := by
  have hcb := ict_rng hM h0
  have hmx : max 1 (ictV m l) = ictV m l := by omega
  have hml := mnsD_le m l
  have hpl := prL_len m l
  have e1 := Int.emod_nonneg o (b := ictV m l) (by omega)
  have e2 := Int.emod_lt_of_pos o (b := ictV m l) (by omega)
  have e3 : ((o % ictV m l).toNat : Int) = o % ictV m l := by omega
  have hof : iofE m l (o % ictV m l) = 0 := by rw [← e3]; exact iof_ok h0 (by omega)
  have h1 := C_tactuskit_Mod o (max 1 (ictV m l)) ho (by omega)
  rw [hmx] at h1
  have h2 := C_item_Of m l (o % ictV m l) (by omega)
  rw [hof] at h2
  have l1 := iofD_lk hof
  have l2 := iofM_lk hof
  have h3 := C_item_Items m l (iofD m l (o % ictV m l)) (iofM m l (o % ictV m l)) (by omega) (by omega)
  have h4 := itm_ok hM hck hof
  rw [h4] at h3
  have h5 := itmE_0 h4
  rw [hmx]
  exact ⟨_, _, _, h1, h2, h3, h5.1, h5.2, by omega, by omega⟩
attribute [local irreducible] roL roK ruleD iofD iofM ictV ictE mnsD prL twos fullT itmV iTM isPair dotsK pairK ntN minV sumV durL
set_option maxHeartbeats 4000000 in
theorem C_tactuslaw13_minors (m : Mn) (l : List Sg) (x : List Ite) (hxl : x.length ≤ 1000) (hll : l.length ≤ 1000) (n : Nat) (Xi Yi : Ite) (hX : x[n]? = some Xi) (hY : x[n + 1]? = some Yi) (hXS : 0 ≤ Xi.Sign ∧ Xi.Sign < 1000) (hYS : 0 ≤ Yi.Sign ∧ Yi.Sign < 1000) : Fn Tryz.prog 35 [mnA m, sgsA l, itsA x, iv (n : Int)] (.bool (minV m l x n Xi Yi)) := by
  have hX2 : x[(n : Int).toNat]? = some Xi := by simpa using hX
  have hY2 : x[((n : Int) + 1).toNat]? = some Yi := by rw [show ((n : Int) + 1).toNat = n + 1 by omega]; exact hY
  have hlt := (List.getElem?_eq_some_iff.1 hY).1
  have e1 : ((n : Int) - 1).toNat = n - 1 := by omega
  have e2 : ((n : Int) + 2).toNat = n + 2 := by omega
  have e3 : decide ((x.length : Int) ≤ (n : Int) + 2) = decide (x.length ≤ n + 2) := decide_eq_decide.2 (by omega)
  have e4 : decide ((n : Int) = 0) = decide (n = 0) := decide_eq_decide.2 (by omega)
  have hmt := minV_t (m := m) (l := l) (x := x) (n := n) (X := Xi) (Y := Yi)
  have hme := minV_e (m := m) (l := l) (x := x) (n := n) (X := Xi) (Y := Yi)
  refine Fn.go Tryz.func35 Tryz.ntmps35 (fun g w d => ?_)
  refine X.seq ?_
  refine X.region ?_
  refine Ex.ba ?_
  refine Ex.pu ?_
  refine Ex.nil ?_
  refine X.seq ?_
  refine X.seq ?_
  refine X.dw [10,11,12,13,14,15,16,17,18,19,20,21,22,23,24,25,26,27,28,29,30,31,32,33,34,35,36,37,38,39,40,41,42,43,44,45,46,47,48,49,50,51,52,53,54,55,56,57,58,59,60,61] [0,1,3,7,15,15,63,127,255,511,1023,2047,4095,4095,16383,32767,65535,131071,262143,524287,1048575,1048575,3145727,8388607,16777215,33554431,67108863,134217727,268435455,536870911,536870911,1610612735,4294967295,8589934591,17179869183,34359738367,68719476735,137438953471,274877906943,274877906943,824633720831,2199023255551,4398046511103,8796093022207,274877906943,274877906943,53051436040191,123420180217855,264157668573183,545632645283839,1125899906842623,2251799813685247] mo ?_
  iterate 4 refine ChM.pu ?_
  iterate 6 refine ChM.gi ?_
  iterate 2 refine ChM.pu ?_
  iterate 6 refine ChM.gi ?_
  iterate 2 refine ChM.pu ?_
  iterate 7 refine ChM.gi ?_
  iterate 2 refine ChM.pu ?_
  iterate 7 refine ChM.gi ?_
  iterate 2 refine ChM.pu ?_
  iterate 13 refine ChM.gi ?_
  refine ChM.pu ?_
  refine ChM.tl ?_
  refine Ex.nil ?_
  refine X.cd rfl (fun hc1 => ?_) (fun hc1 => ?_)
  · refine X.seq ?_
    refine X.region ?_
    refine Ex.pu ?_
    refine Ex.nil ?_
    refine X.ret ?_
    refine RetQ.ret (.one (.tmp rfl (LeV.eq ?_)))
    all_goals (cases h : minV m l x n Xi Yi with
      | false => rfl
      | true => exfalso; have := hmt h; simp_all)
  refine X.skip ?_
  refine X.seq ?_
  refine X.seq ?_
  refine X.region ?_
  iterate 8 refine Ex.pu ?_
  refine Ex.nil ?_
  refine X.seq ?_
  refine X.region ?_
  iterate 2 refine Ex.pu ?_
  refine ExF.at 2 ?_
  refine ExF.pu ?_
  iterate 4 refine ExF.gi ?_
  iterate 2 refine ExF.pu ?_
  iterate 6 refine ExF.gi ?_
  refine ExF.done ?_
  refine Ex.pu ?_
  refine Ex.nil ?_
  refine X.cd rfl (fun hc2 => ?_) (fun hc2 => ?_)
  · refine X.seq ?_
    refine X.region ?_
    refine Ex.pu ?_
    refine Ex.nil ?_
    refine X.ret ?_
    refine RetQ.ret (.one (.tmp rfl (LeV.eq ?_)))
    all_goals (cases h : minV m l x n Xi Yi with
      | false => rfl
      | true => exact absurd hc2 (hmt h).2.2.2.2.2.2)
  refine X.skip ?_
  refine X.seq ?_
  refine X.region ?_
  iterate 2 refine Ex.pu ?_
  refine ExF.at 2 ?_
  refine ExF.pu ?_
  iterate 7 refine ExF.gi ?_
  iterate 2 refine ExF.pu ?_
  iterate 14 refine ExF.gi ?_
  refine ExF.done ?_
  iterate 2 refine Ex.pu ?_
  refine Ex.nil ?_
  refine X.ret ?_
  refine RetQ.ret (.one (.tmp rfl (LeV.eq ?_)))
  all_goals (rw [hme (by simp only [and_assoc] at hc1; exact hc1) (fun e => by rcases hc2 with (h | h) | h; omega; omega; exact h e.2), e1, e2, e3, e4])
set_option maxHeartbeats 16000000 in
set_option maxRecDepth 100000 in
theorem C_tactuslaw13_ItemChanges (nums : List Int) (n one two : Int) (hr : ∀ x, x ∈ nums → -9223372036854775808 ≤ x ∧ x ≤ 9223372036854775807) (hnl : nums.length ≤ maxLen) (hn : -9223372036854775808 ≤ n ∧ n ≤ 9223372036854775807) (h1r : -9223372036854775808 ≤ one ∧ one ≤ 9223372036854775807) (h2r : -9223372036854775808 ≤ two ∧ two ≤ 9223372036854775807) : Fn Tryz.prog 7 [intsA nums, iv n, iv one, iv two] (.bool true) := by
  have hm := C_tactuslaw13_made nums n hr hnl hn
  have hM := mMk_ck n
  generalize mMk n = m at hm hM
  have hck := roL_ck hM nums 24
  have hlen := roL_len m nums (most := 24) (by decide)
  have hD := roL_dots m nums 24
  generalize roL m nums 24 = l at hm hck hlen hD
  refine Fn.go Tryz.func7 Tryz.ntmps7 (fun g w d => ?_)
  refine X.seq ?_
  refine X.region ?_
  refine Ex.pu ?_
  refine Ex.nil ?_
  refine X.seq ?_
  refine X.region ?_
  refine Ex.ca C_tactuslaw13_ItemKnown ?_
  refine Ex.pu ?_
  refine Ex.nil ?_
  refine X.seq ?_
  refine X.region ?_
  iterate 2 refine Ex.pu ?_
  refine Ex.ca hm ?_
  iterate 3 refine Ex.pu ?_
  refine Ex.al ?_
  refine Ex.mo ?_
  refine Ex.pu ?_
  refine Ex.nil ?_
  refine X.seq ?_
  refine X.region ?_
  iterate 2 refine Ex.pu ?_
  refine Ex.ca (C_item_Count m l (by omega)) ?_
  iterate 5 refine Ex.pu ?_
  refine Ex.nil ?_
  refine X.seq ?_
  refine X.seq ?_
  refine X.region ?_
  iterate 2 refine Ex.pu ?_
  refine Ex.nil ?_
  refine X.cd rfl (fun hc1 => ?_) (fun hc1 => ?_)
  · have h15 := ict_15 hck hc1
    refine X.seq ?_
    refine X.region ?_
    refine Ex.pu ?_
    refine ExF.at 1 ?_
    refine ExF.pu ?_
    iterate 2 refine ExF.gi ?_
    refine ExF.done ?_
    iterate 2 refine Ex.pu ?_
    refine Ex.nil ?_
    refine X.ret ?_
    refine RetQ.ret (.one (.tmp rfl (LeV.eq ?_)))
    all_goals (rw [h15]; rfl)
  have h0 : ictE m l = 0 := by simpa using hc1
  have hZ1 := chg_of hM hck (by omega) h0 one h1r
  obtain ⟨i1, a, b, hMo1, hOf1, hIt1, ha, hb, la, lb⟩ := hZ1
  have hZ2 := chg_of hM hck (by omega) h0 two h2r
  obtain ⟨i2, dd, gg, hMo2, hOf2, hIt2, hd, hg, ld, lg⟩ := hZ2
  have hT : Two m l a b dd gg := ⟨hD, ha, hb, hd, hg⟩
  have hL := hT.lens
  have hnn := ntN_le l l.length
  refine X.skip ?_
  refine X.seq ?_
  refine X.dw [14,15,16,51,52,53,54,55,56,57,58,59,60,61] [0,0,0,0,8,28,63,127,255,255,255,511,3071,8191] mo ?_
  iterate 4 refine ChM.pu ?_
  refine ChM.step rfl rfl rfl (Pur.stepA (P_max rfl rfl)) rfl ?_
  refine ChM.ca hMo1 ?_
  refine ChM.ca hOf1 ?_
  iterate 7 refine ChM.pu ?_
  refine ChM.tl ?_
  refine Ex.nil ?_
  refine X.seq ?_
  refine X.dw [17,18,19,62,63,64,65,66,67,68,69,70,71,72] [0,0,0,0,8,28,63,127,255,255,255,511,3071,8191] mo ?_
  iterate 4 refine ChM.pu ?_
  refine ChM.step rfl rfl rfl (Pur.stepA (P_max rfl rfl)) rfl ?_
  refine ChM.ca hMo2 ?_
  refine ChM.ca hOf2 ?_
  iterate 7 refine ChM.pu ?_
  refine ChM.tl ?_
  refine Ex.nil ?_
  refine X.seq ?_
  refine X.region ?_
  iterate 4 refine Ex.pu ?_
  refine Ex.ca hIt1 ?_
  iterate 5 refine Ex.pu ?_
  refine Ex.nil ?_
  refine X.seq ?_
  refine X.region ?_
  iterate 4 refine Ex.pu ?_
  refine Ex.ca hIt2 ?_
  iterate 5 refine Ex.pu ?_
  refine Ex.nil ?_
  refine X.seq ?_
  refine X.seq ?_
  refine X.region ?_
  iterate 2 refine Ex.pu ?_
  refine ExF.at 2 ?_
  refine ExF.pu ?_
  iterate 2 refine ExF.gi ?_
  iterate 2 refine ExF.pu ?_
  iterate 2 refine ExF.gi ?_
  iterate 2 refine ExF.pu ?_
  iterate 2 refine ExF.gi ?_
  iterate 2 refine ExF.pu ?_
  iterate 5 refine ExF.gi ?_
  iterate 2 refine ExF.pu ?_
  iterate 5 refine ExF.gi ?_
  iterate 2 refine ExF.pu ?_
  iterate 5 refine ExF.gi ?_
  refine ExF.done ?_
  refine Ex.pu ?_
  refine Ex.nil ?_
  refine X.cd rfl (fun hc2 => ?_) (fun hc2 => ?_)
  · omega
  refine X.skip ?_
  refine X.seq ?_
  refine X.region ?_
  iterate 2 refine Ex.pu ?_
  refine Ex.nil ?_
  refine X.seq ?_
  refine X.seq ?_
  refine X.region ?_
  refine Ex.pu ?_
  refine Ex.nil ?_
  refine X.block ?_
  have hd0 : (dotsK l 0).length = 0 := by unfold dotsK; rfl
  have hp0 : (pairK m l 0).length = 0 := by unfold pairK; rfl
  have hn0 : ntN l 0 = 0 := by unfold ntN; rfl
  refine X.lp (ι := Nat) (fun (k : Nat) => [(9, .bool true), (10, .ptr 10 0 0 0), (11, sgsA l), (14, intsA a), (15, intsA b), (17, intsA dd), (18, intsA gg), (20, itsA (itmV m l a b)), (22, itsA (itmV m l dd gg)), (24, iv ((dotsK l k).length : Int)), (25, iv ((pairK m l k).length : Int)), (26, iv (ntN l k : Int))]) (fun (k : Nat) => [(10, .box (mnE m) 23)]) (fun (k : Nat) => At m l k) (fun (k : Nat) => l.length - k) 0 (fun k hk => ?_) (hJ := by
    exact At.zero hD)
  have hkl0 := hk.le
  refine X.seq ?_
  refine X.seq ?_
  refine X.region ?_
  iterate 4 refine Ex.pu ?_
  refine Ex.nil ?_
  refine X.cd rfl (fun hc3 => ?_) (fun hc3 => ?_)
  · have hkl : k < l.length := nt_lt (l := l) (by omega)
    obtain ⟨s, hs⟩ : ∃ s, l[k]? = some s := ⟨_, List.getElem?_eq_getElem hkl⟩
    have h3 := hk.nd s hs
    have hXY := hT.items hs h3
    obtain ⟨Xi, eX⟩ : ∃ Xi, Xi = iTM m l a b k s := ⟨_, rfl⟩
    obtain ⟨Yi, eY⟩ : ∃ Yi, Yi = iTM m l dd gg k s := ⟨_, rfl⟩
    rw [← eX, ← eY] at hXY
    have hX := hXY.1
    have hY := hXY.2
    have hXS : Xi.Sign = (k : Int) := by rw [eX]; unfold iTM itOf; rfl
    have hX2 : (itmV m l a b)[(ntN l k : Int).toNat]? = some Xi := by simpa using hX
    have hY2 : (itmV m l dd gg)[(ntN l k : Int).toNat]? = some Yi := by simpa using hY
    have hMin : (ntN l k : Int) + 1 < ((itmV m l a b).length : Int) → Fn Tryz.prog 35 [mnA m, sgsA l, itsA (itmV m l a b), iv (ntN l k : Int)] (.bool (isPair m l (k : Int))) := fun h => by
      obtain ⟨Z, hZ⟩ : ∃ Z, (itmV m l a b)[ntN l k + 1]? = some Z := ⟨_, List.getElem?_eq_getElem (by omega)⟩
      have hZs := itm_sign ha hb hZ
      have h1 := C_tactuslaw13_minors m l (itmV m l a b) (by omega) (by omega) (ntN l k) Xi Z hX hZ (by omega) (by omega)
      rw [hT.min hs h3 hX hZ] at h1; exact h1
    refine X.skip ?_
    refine X.seq ?_
    refine X.block ?_
    refine X.seq ?_
    refine X.region ?_
    iterate 6 refine Ex.pu ?_
    refine ExF.at 6 ?_
    refine ExF.pu ?_
    iterate 9 refine ExF.gi ?_
    iterate 2 refine ExF.pu ?_
    iterate 11 refine ExF.gi ?_
    refine ExF.done ?_
    iterate 2 refine Ex.pu ?_
    refine Ex.nil ?_
    refine X.seq ?_
    refine X.region ?_
    refine Ex.pu ?_
    refine Ex.nil ?_
    refine X.seq ?_
    refine X.seq ?_
    refine X.region ?_
    refine Ex.pu ?_
    refine Ex.nil ?_
    refine X.cd rfl (fun hc4 => ?_) (fun hc4 => ?_)
    · have hZ3 := is_dot hXS hc4
      obtain ⟨z, hz, hz3⟩ := hZ3
      have hZ4 := hT.dot hk hs h3 hz hz3
      obtain ⟨v, v', hv, hv', hvv⟩ := hZ4
      rw [← eX, ← eY] at hvv
      have hv2 : a[((dotsK l k).length : Int).toNat]? = some v := by simpa using hv
      have hv3 : dd[((dotsK l k).length : Int).toNat]? = some v' := by simpa using hv'
      have hal := (List.getElem?_eq_some_iff.1 hv).1
      have hdl := (List.getElem?_eq_some_iff.1 hv').1
      have hst := step_dot (m := m) hD hs h3 hz hz3
      have hst4 := congrArg List.length hst.2.2.2
      have hnp := dot_np' (m := m) hz hz3
      refine X.seq ?_
      refine X.seq ?_
      refine X.region ?_
      iterate 4 refine Ex.pu ?_
      refine Ex.nil ?_
      refine X.cd rfl (fun hc5 => ?_) (fun hc5 => ?_)
      · omega
      refine X.skip ?_
      refine X.seq ?_
      refine X.dw [28,165,166,167,168,169,170,171,172,173] [0,0,3,7,0,0,48,112,255,511] mo ?_
      iterate 10 refine ChM.pu ?_
      refine ChM.tl ?_
      refine Ex.nil ?_
      refine X.region ?_
      iterate 3 refine Ex.pu ?_
      refine Ex.nil ?_
      refine X.seq ?_
      refine X.seq ?_
      refine X.region ?_
      iterate 5 refine Ex.pu ?_
      refine ExF.at 5 ?_
      refine ExF.pu ?_
      iterate 4 refine ExF.gi ?_
      refine ExF.cp (fun hgd => (hMin hgd)) ?_
      refine ExF.done ?_
      refine Ex.pu ?_
      refine Ex.nil ?_
      refine X.cd rfl (fun hc6 => ?_) (fun hc6 => ?_)
      · rw [hnp] at hc6; simp at hc6
      refine X.skip ?_
      refine X.seq ?_
      refine X.dw [254,255,256,257,258,259,260,261,262,263,264,265,266] [0,1,3,7,7,31,63,7,7,391,903,2047,4095] mo ?_
      iterate 3 refine ChM.pu ?_
      iterate 8 refine ChM.gi ?_
      refine ChM.gi ?_ (hs := by intro hgd; exact Q_neq_st (eqL_itE _ _) inferInstance TyK.h rfl rfl rfl rfl rfl)
      refine ChM.pu ?_
      refine ChM.tl ?_
      refine Ex.nil ?_
      refine X.cd rfl (fun hc7 => ?_) (fun hc7 => ?_)
      · exact (hc7.2 (hvv (by simpa using hc7.1))).elim
      refine X.skip ?_
      refine X.region ?_
      iterate 3 refine Ex.pu ?_
      refine Ex.nil ?_
      refine X.bk (k + 2) (hJ := by
        first | exact hst.1 | exact hsp.1 | exact hsn.1) (hm := by first | omega | (have h5 := hst.1.le; omega) | (have h5 := hsp.1.le; omega))
    · have hnd := not_dot hXS hc4
      refine X.skip ?_
      refine X.seq ?_
      refine X.seq ?_
      refine X.region ?_
      iterate 5 refine Ex.pu ?_
      refine ExF.at 5 ?_
      refine ExF.pu ?_
      iterate 4 refine ExF.gi ?_
      refine ExF.cp (fun hgd => (hMin hgd)) ?_
      refine ExF.done ?_
      refine Ex.pu ?_
      refine Ex.nil ?_
      refine X.cd rfl (fun hc8 => ?_) (fun hc8 => ?_)
      · have hp := hc8.2
        have hZ5 := hT.pair hp
        obtain ⟨y, y', X0, Z, Y0, Z', hy, hy', q1, q2, q3, q4, hs1, hs2, hyy⟩ := hZ5
        rw [hX] at q1; injection q1 with q1; subst q1
        rw [hY] at q3; injection q3 with q3; subst q3
        have hsp := step_pair hp
        have hsp3 := congrArg List.length hsp.2.2.1
        have hyl := (List.getElem?_eq_some_iff.1 hy).1
        have hyl' := (List.getElem?_eq_some_iff.1 hy').1
        have hy2 : b[((pairK m l k).length : Int).toNat]? = some y := by simpa using hy
        have hy3 : gg[((pairK m l k).length : Int).toNat]? = some y' := by simpa using hy'
        have hZ2 : (itmV m l a b)[((ntN l k : Int) + 1).toNat]? = some Z := by rw [show ((ntN l k : Int) + 1).toNat = ntN l k + 1 by omega]; exact q2
        have hZ3 : (itmV m l dd gg)[((ntN l k : Int) + 1).toNat]? = some Z' := by rw [show ((ntN l k : Int) + 1).toNat = ntN l k + 1 by omega]; exact q4
        have hsub : ((itmV m l a b).drop (ntN l k : Int).toNat).take (((ntN l k : Int) + 2).toNat - (ntN l k : Int).toNat) = [Xi, Z] := by
          rw [show ((ntN l k : Int) + 2).toNat - (ntN l k : Int).toNat = 2 by omega, Int.toNat_natCast]; exact sub_two hX q2
        have hTo : Fn Tryz.prog 36 [itsA (((itmV m l a b).drop (ntN l k : Int).toNat).take (((ntN l k : Int) + 2).toNat - (ntN l k : Int).toNat))] (.tup [tmA (sumV [Xi.Dur, Z.Dur]), iv 0]) := by
          rw [hsub]
          have h := C_item_Total [Xi, Z] (by simp)
          rw [show durL [Xi, Z] = [Xi.Dur, Z.Dur] by unfold durL; rfl, hs1] at h; exact h
        have hbad : ¬ (((0 : Int) ≠ 0 ∨ (y = 2 ∧ sumV [Xi.Dur, Z.Dur] ≠ ⟨2, 1⟩)) ∨ (y = y' ∧ (Xi ≠ Yi ∨ Z ≠ Z'))) := fun h => by
          rcases h with (h | h) | h
          · exact h rfl
          · exact h.2 (hs2 h.1)
          · have := hyy h.1; rcases h.2 with h2 | h2; (exact h2 this.1); (exact h2 this.2)
        refine X.seq ?_
        refine X.seq ?_
        refine X.region ?_
        iterate 4 refine Ex.pu ?_
        refine Ex.nil ?_
        refine X.cd rfl (fun hc9 => ?_) (fun hc9 => ?_)
        · omega
        refine X.skip ?_
        refine X.seq ?_
        refine X.region ?_
        iterate 4 refine Ex.pu ?_
        refine Ex.pur (P_slice_slB rfl rfl rfl sl29 ty53 (fun _ => rfl) (by omega) (by omega) (by omega)) rfl ?_
        refine Ex.ca hTo ?_
        iterate 3 refine Ex.pu ?_
        refine Ex.al ?_
        refine Ex.mo ?_
        refine Ex.pu ?_
        refine Ex.nil ?_
        refine X.seq ?_
        refine X.seq ?_
        refine X.dw [201,202,203,204,205,206,207,208,209,210,211,212,213,214,215,216,217,218,219,220,221,222,223,224,225,226,227,228,229,230,231,232,233,234,235,236,237,238,239,240,241,242,243,244,245,246,247,248,249] [0,1,3,7,7,31,63,127,255,511,511,2047,4095,8191,16383,32767,32767,131071,262143,32767,32767,1605631,3702783,8388607,16777215,33554431,33554431,134217727,268435455,33554431,33554431,1644167167,3791650815,8589934591,17179869183,34359738367,34359738367,103079215103,274877906943,549755813887,34359738367,34359738367,2233382993919,7730941132799,16527034155007,35184372088831,70368744177663,140737488355327,281474976710655] mo ?_
        iterate 3 refine ChM.pu ?_
        iterate 7 refine ChM.gi ?_
        refine ChM.cg (C_tactuslaw13_t 2 1 (by omega) (by omega) rfl) ?_
        iterate 2 refine ChM.gi ?_
        iterate 2 refine ChM.pu ?_
        iterate 18 refine ChM.gi ?_
        refine ChM.gi ?_ (hs := by intro hgd; exact Q_neq_st (eqL_itE _ _) inferInstance TyK.h rfl rfl rfl rfl rfl)
        iterate 11 refine ChM.gi ?_
        refine ChM.gi ?_ (hs := by intro hgd; exact Q_neq_st (eqL_itE _ _) inferInstance TyK.h rfl rfl rfl rfl rfl)
        iterate 2 refine ChM.gi ?_
        refine ChM.pu ?_
        refine ChM.tl ?_
        refine Ex.nil ?_
        refine X.cd rfl (fun hc10 => ?_) (fun hc10 => ?_)
        · exact (hbad hc10).elim
        refine X.skip ?_
        refine X.seq ?_
        refine X.region ?_
        iterate 3 refine Ex.pu ?_
        refine Ex.nil ?_
        refine X.seq ?_
        refine X.region ?_
        iterate 3 refine Ex.pu ?_
        refine Ex.nil ?_
        refine X.exit ?_
        refine X.region ?_
        iterate 3 refine Ex.pu ?_
        refine Ex.nil ?_
        refine X.bk (k + 2) (hJ := by
          first | exact hst.1 | exact hsp.1 | exact hsn.1) (hm := by first | omega | (have h5 := hst.1.le; omega) | (have h5 := hsp.1.le; omega))
      have hpf : isPair m l (k : Int) = false := by
        cases h : isPair m l (k : Int) with
        | false => rfl
        | true =>
          have h2 := pair_in hT h
          rcases hc8 with h4 | h4
          · omega
          · rw [h] at h4; cases h4
      have hsn := step_none hs h3 hpf hnd
      have hsn3 := congrArg List.length hsn.2.2.1
      have hsn4 := congrArg List.length hsn.2.2.2
      refine X.skip ?_
      refine X.seq ?_
      refine X.dw [254,255,256,257,258,259,260,261,262,263,264,265,266] [0,1,3,7,7,31,63,7,7,391,903,2047,4095] mo ?_
      iterate 3 refine ChM.pu ?_
      iterate 8 refine ChM.gi ?_
      refine ChM.gi ?_ (hs := by intro hgd; exact Q_neq_st (eqL_itE _ _) inferInstance TyK.h rfl rfl rfl rfl rfl)
      refine ChM.pu ?_
      refine ChM.tl ?_
      refine Ex.nil ?_
      refine X.cd rfl (fun hc11 => ?_) (fun hc11 => ?_)
      · exact (hc11.2 ((eX.trans (hT.none hk hpf hnd)).trans eY.symm)).elim
      refine X.skip ?_
      refine X.region ?_
      iterate 3 refine Ex.pu ?_
      refine Ex.nil ?_
      refine X.bk (k + 1) (hJ := by
        first | exact hst.1 | exact hsp.1 | exact hsn.1) (hm := by first | omega | (have h5 := hst.1.le; omega) | (have h5 := hsp.1.le; omega))
  · obtain rfl : k = l.length := by
      apply Classical.byContradiction; intro hne
      have hle := hk.le
      have hlt : k < l.length := by omega
      have := nt_strict (List.getElem?_eq_getElem hlt) (hk.nd _ (List.getElem?_eq_getElem hlt)) hlt
      omega
    refine X.exit ?_
    refine X.seq ?_
    refine X.region ?_
    refine Ex.pu ?_
    refine ExF.at 1 ?_
    refine ExF.pu ?_
    iterate 4 refine ExF.gi ?_
    iterate 2 refine ExF.pu ?_
    iterate 4 refine ExF.gi ?_
    refine ExF.done ?_
    iterate 2 refine Ex.pu ?_
    refine Ex.nil ?_
    refine X.ret ?_
    refine RetQ.ret (.one (.tmp rfl (LeV.eq ?_)))
    all_goals (first | rfl | (simp; omega))
end Go.Rse
