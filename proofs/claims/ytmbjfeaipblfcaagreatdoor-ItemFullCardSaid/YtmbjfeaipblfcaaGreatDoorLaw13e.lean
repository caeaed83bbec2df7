/-
  Walks: the statement on full durations.
-/
import Derived.Test.YtmbjfeaipblfcaaGreatDoorLaw13d
import Derived.Test.YtmbjfeaipblfcaaGreatDoorItF2
import Derived.Test.YtmbjfeaipblfcaaGreatDoorItC0
namespace Go.Rse
open Go Go.Proofs
set_option linter.unusedVariables false
set_option linter.unusedSimpArgs false
attribute [local irreducible] Pur StepA StepM Ex X ExG Fn Imp LeV LeB FnO It YStep
theorem roL_dots (m : Mn) (nums : List Int) (most : Int) : DotsOk (roL m nums most) := gr_dots (roK_gr m nums most nums.length).1
theorem C_tactuslaw13_timed (l : List Sg) (hl : l.length ≤ 1000) : Fn Tryz.prog 31 [sgsA l] (iv (ntN l l.length)) := by
  have h00 : ntN l 0 = 0 := rfl
  refine Fn.go Tryz.func31 Tryz.ntmps31 (fun g w d => ?_)
  refine X.seq ?_
  refine X.region ?_
  refine Ex.pu ?_
  refine Ex.nil ?_
  refine X.seq ?_
  refine X.region ?_
  refine Ex.pu ?_
  refine Ex.nil ?_
  refine X.seq ?_
  refine X.seq ?_
  refine X.region ?_
  refine Ex.pu ?_
  refine Ex.nil ?_
  refine X.block ?_
  refine X.lp (ι := Nat) (fun (k : Nat) => [(0, sgsA l), (3, iv (ntN l k)), (4, iv (k : Int))]) (fun (k : Nat) => []) (fun (k : Nat) => k ≤ l.length) (fun (k : Nat) => l.length - k) 0 (fun k hk => ?_)
  refine X.seq ?_
  refine X.seq ?_
  refine X.region ?_
  iterate 4 refine Ex.pu ?_
  refine Ex.nil ?_
  refine X.cd rfl (fun hc1 => ?_) (fun hc1 => ?_)
  · obtain ⟨s, hs⟩ : ∃ s, l[k]? = some s := ⟨_, List.getElem?_eq_getElem (by omega)⟩
    have hs2 : l[(k : Int).toNat]? = some s := by simpa using hs
    have hnl := ntN_le l k
    refine X.skip ?_
    refine X.seq ?_
    refine X.block ?_
    refine X.seq ?_
    refine X.region ?_
    iterate 6 refine Ex.pu ?_
    refine Ex.nil ?_
    refine X.cd rfl (fun hc2 => ?_) (fun hc2 => ?_)
    · have hnt := ntN_nr hs hc2
      refine X.region ?_
      iterate 3 refine Ex.pu ?_
      refine Ex.nil ?_
      refine X.region ?_
      iterate 3 refine Ex.pu ?_
      refine Ex.nil ?_
      refine X.bk (k + 1)
    · have hnt := ntN_dot hs (by omega)
      refine X.skip ?_
      refine X.region ?_
      iterate 3 refine Ex.pu ?_
      refine Ex.nil ?_
      refine X.bk (k + 1)
  · obtain rfl : k = l.length := by omega
    refine X.exit ?_
    refine X.seq ?_
    refine X.region ?_
    iterate 2 refine Ex.pu ?_
    refine Ex.nil ?_
    refine X.ret ?_
    refine RetQ.ret (.one (.tmp rfl (LeV.eq ?_)))
    all_goals (first | rfl | (simp_all; done))
attribute [local irreducible] roL roK ruleD iofD iofM ictV ictE mnsD prL fnd twos plnK fullT
set_option maxHeartbeats 8000000 in
set_option maxRecDepth 100000 in
theorem C_tactuslaw13_ItemFull (nums : List Int) (n : Int) (hr : ∀ x, x ∈ nums → -9223372036854775808 ≤ x ∧ x ≤ 9223372036854775807) (hnl : nums.length ≤ maxLen) (hn : -9223372036854775808 ≤ n ∧ n ≤ 9223372036854775807) : Fn Tryz.prog 5 [intsA nums, iv n] (.bool true) := by
  have hm := C_tactuslaw13_made nums n hr hnl hn
  have hM := mMk_ck n
  generalize mMk n = m at hm hM
  have hck := roL_ck hM nums 24
  have hlen := roL_len m nums (most := 24) (by decide)
  have hD := roL_dots m nums 24
  generalize roL m nums 24 = l at hm hck hlen hD
  have hR := C_item_Rule m l (by omega)
  rw [hck, if_pos rfl] at hR
  have hmk := rule_mk hM hck
  have hdu := rule_du (m := m) (l := l) hck
  have hprl := prL_len m l
  have hI := C_item_Items m l (ruleD m l) (twos (prL m l).length) (by omega) (by rw [twos_len]; omega)
  rw [itmE_b hmk, hdu] at hI
  have hxl := itm_len hmk hdu
  have hit := fun i Xi => it_full hmk hdu hD (i := i) (x := Xi)
  generalize itmV m l (ruleD m l) (twos (prL m l).length) = x at hI hxl hit
  have hpi := pln_ict hck
  have hpf := fun h => plnK_at (l := l) l.length h
  have hnl0 := ntN_le l l.length
  have hp0 : plnK l 0 = true := by unfold plnK; rfl
  have hFull := fun v => C_mens_FullV (m := m) (v := v) hM
  refine Fn.go Tryz.func5 Tryz.ntmps5 (fun g w d => ?_)
  refine X.seq ?_
  refine X.region ?_
  refine Ex.pu ?_
  refine Ex.nil ?_
  refine X.seq ?_
  refine X.region ?_
  refine Ex.ca C_tactuslaw13_ItemKnown ?_
  refine Ex.pu ?_
  refine Ex.nil ?_
  refine X.seq ?_
  refine X.region ?_
  iterate 2 refine Ex.pu ?_
  refine Ex.ca hm ?_
  iterate 3 refine Ex.pu ?_
  refine Ex.al ?_
  refine Ex.mo ?_
  refine Ex.pu ?_
  refine Ex.nil ?_
  refine X.seq ?_
  refine X.region ?_
  iterate 2 refine Ex.pu ?_
  refine Ex.ca hR ?_
  iterate 7 refine Ex.pu ?_
  refine Ex.nil ?_
  refine X.seq ?_
  refine X.region ?_
  iterate 4 refine Ex.pu ?_
  refine Ex.ca hI ?_
  iterate 5 refine Ex.pu ?_
  refine Ex.nil ?_
  refine X.seq ?_
  refine X.seq ?_
  refine X.region ?_
  iterate 2 refine Ex.pu ?_
  refine ExF.at 2 ?_
  refine ExF.pu ?_
  iterate 2 refine ExF.gi ?_
  iterate 2 refine ExF.pu ?_
  iterate 3 refine ExF.gi ?_
  refine ExF.cg (C_tactuslaw13_timed l (by omega)) ?_
  refine ExF.gi ?_
  refine ExF.done ?_
  refine Ex.pu ?_
  refine Ex.nil ?_
  refine X.cd rfl (fun hc1 => ?_) (fun hc1 => ?_)
  · omega
  refine X.skip ?_
  refine X.seq ?_
  refine X.region ?_
  refine Ex.pu ?_
  refine Ex.nil ?_
  refine X.seq ?_
  refine X.seq ?_
  refine X.region ?_
  refine Ex.pu ?_
  refine Ex.nil ?_
  refine X.block ?_
  refine X.lp (ι := Nat) (fun (k : Nat) => [(5, .bool true), (6, .ptr 6 0 0 0), (7, sgsA l), (11, itsA x), (13, .bool (plnK l k)), (14, iv (k : Int))]) (fun (k : Nat) => [(6, .box (mnE m) 23)]) (fun (k : Nat) => k ≤ l.length) (fun (k : Nat) => l.length - k) 0 (fun k hk => ?_) (h0 := by
    exact Imp.of (by (repeat' (first | exact True.intro | (refine And.intro ⟨_, rfl, ?_⟩ ?_; first | exact LeV.refl _ | (refine LeV.eq ?_; rw [hp0]) | (refine LeV.eq ?_; rw [hpl]) | (refine LeV.eq ?_; rw [hpl]; simp; done) | exact LeV.any _ | (refine LeV.eq (congrArg (AV.int _) ?_); omega))))) (by (repeat' (first | exact True.intro | (refine And.intro ⟨_, rfl, ?_⟩ ?_; (first | exact LeV.refl _ | exact LeV.any _ | exact LeB.refl _ | (refine LeV.eq ?_; simp; done) | (refine LeV.eq ?_; congr 1; omega) | (refine LeV.eq ?_; dsimp only; congr 1; omega) | (refine LeV.eq (congrArg (AV.int _) ?_); omega) | exact LeV.nils _ | exact LeB.row (by assumption) | (refine LeB.eq ?_; congr 1; omega) | (refine LeB.eq ?_; congr 1; simp only [cond_true, cond_false]; omega)))))))
  refine X.seq ?_
  refine X.seq ?_
  refine X.region ?_
  iterate 4 refine Ex.pu ?_
  refine Ex.nil ?_
  refine X.cd rfl (fun hc2 => ?_) (fun hc2 => ?_)
  · obtain ⟨s, hs⟩ : ∃ s, l[k]? = some s := ⟨_, List.getElem?_eq_getElem (by omega)⟩
    have hs2 : l[(k : Int).toNat]? = some s := by simpa using hs
    have hpl : plnK l (k + 1) = (plnK l k && !decide (s.Kind = 3) && !s.Color) := by rw [plnK_s hs]; simp
    refine X.skip ?_
    refine X.seq ?_
    refine X.block ?_
    refine X.region ?_
    refine Ex.pu ?_
    refine ExF.at 1 ?_
    refine ExF.pu ?_
    iterate 6 refine ExF.gi ?_
    iterate 2 refine ExF.pu ?_
    iterate 6 refine ExF.gi ?_
    refine ExF.done ?_
    iterate 2 refine Ex.pu ?_
    refine Ex.nil ?_
    refine X.region ?_
    iterate 3 refine Ex.pu ?_
    refine Ex.nil ?_
    refine X.bk (k + 1) (hI := Imp.of (by (repeat' (first | exact True.intro | (refine And.intro ⟨_, rfl, ?_⟩ ?_; first | exact LeV.refl _ | (refine LeV.eq ?_; rw [hp0]) | (refine LeV.eq ?_; rw [hpl]) | (refine LeV.eq ?_; rw [hpl]; simp; done) | exact LeV.any _ | (refine LeV.eq (congrArg (AV.int _) ?_); omega))))) (by (repeat' (first | exact True.intro | (refine And.intro ⟨_, rfl, ?_⟩ ?_; (first | exact LeV.refl _ | exact LeV.any _ | exact LeB.refl _ | (refine LeV.eq ?_; simp; done) | (refine LeV.eq ?_; congr 1; omega) | (refine LeV.eq ?_; dsimp only; congr 1; omega) | (refine LeV.eq (congrArg (AV.int _) ?_); omega) | exact LeV.nils _ | exact LeB.row (by assumption) | (refine LeB.eq ?_; congr 1; omega) | (refine LeB.eq ?_; congr 1; simp only [cond_true, cond_false]; omega)))))))
  · obtain rfl : k = l.length := by omega
    refine X.exit ?_
    refine X.seq ?_
    refine X.seq ?_
    refine X.region ?_
    refine Ex.pu ?_
    refine Ex.nil ?_
    refine X.block ?_
    refine X.lp (ι := Nat) (fun (k : Nat) => [(5, .bool true), (6, .ptr 6 0 0 0), (7, sgsA l), (11, itsA x), (13, .bool (plnK l l.length)), (15, iv (k : Int))]) (fun (k : Nat) => [(6, .box (mnE m) 23)]) (fun (k : Nat) => k ≤ x.length) (fun (k : Nat) => x.length - k) 0 (fun k hk => ?_)
    refine X.seq ?_
    refine X.seq ?_
    refine X.region ?_
    iterate 4 refine Ex.pu ?_
    refine Ex.nil ?_
    refine X.cd rfl (fun hc3 => ?_) (fun hc3 => ?_)
    · obtain ⟨Xi, hX⟩ : ∃ Xi, x[k]? = some Xi := ⟨_, List.getElem?_eq_getElem (by omega)⟩
      have hX2 : x[(k : Int).toNat]? = some Xi := by simpa using hX
      have hZ1 := hit k Xi hX
      obtain ⟨q, s, hs, h3, hq, hS, hV, v1, v8, hdN, hfx, hpl⟩ := hZ1
      have hql := (List.getElem?_eq_some_iff.1 hs).1
      have hs2 : l[Xi.Sign.toNat]? = some s := by rw [hS]; simpa using hs
      have hpv : 0 < (k : Int) → ¬ Xi.Sign ≤ (x.getD ((k : Int) - 1).toNat default).Sign := fun h0 => by
        obtain ⟨Z, hZ⟩ : ∃ Z, x[k - 1]? = some Z := ⟨_, List.getElem?_eq_getElem (by omega)⟩
        have hZ2 := hit (k - 1) Z hZ
        obtain ⟨q', s', hs', h3', hq', hS', -⟩ := hZ2
        have := nt_lt (l := l) (k := q) (j := q') (by omega)
        rw [show ((k : Int) - 1).toNat = k - 1 by omega, getD_of hZ]; omega
      have hFu := hFull Xi.Value (by omega) (by omega)
      have hpp : plnK l l.length = true → Xi.Dur = fullT m Xi.Value ∧ Xi.Fixed = Xi.Rest := fun h => by
        rw [hV]; exact hpl (hpf h q s hql hs).2 (fun z hz => (hpf h (q + 1) z (List.getElem?_eq_some_iff.1 hz).1 hz).1)
      refine X.skip ?_
      refine X.seq ?_
      refine X.block ?_
      refine X.seqJ ⟨[(5, .bool true), (6, .ptr 6 0 0 0), (7, sgsA l), (11, itsA x), (13, .bool (plnK l l.length)), (15, iv (k : Int))], [(6, .box (mnE m) 23)]⟩ (fun hJ17 => ?_) ?_
      · refine X.seq ?_
        refine X.dw [84,85,86,87,88,89,90,91,92,93,94,95,96,97,98,99,100,101,102,103,104,105,106,107,108,109,110,111,112,113,114,115,116,117,118,119,120,121,122,123,124,125,126,127,128,129,130,131,132,133,134,135,136,137,138,139,140,141,142,143,144,145,146,147,148,149,150,151,152,153,154,155] [0,1,3,7,7,31,63,127,7,7,519,1799,3847,7943,16383,32767,65535,131071,131071,524287,1048575,2097151,4194303,8388607,16777215,33554431,33554431,134217727,268435455,536870911,33554431,1107296255,4294967295,8589934591,17179869183,34359738367,34359738367,34359738367,240518168575,515396075519,1065151889407,2199023255551,4398046511103,8796093022207,17592186044415,35184372088831,70368744177663,140737488355327,140737488355327,562949953421311,1125899906842623,2251799813685247,4503599627370495,9007199254740991,18014398509481983,36028797018963967,72057594037927935,72057594037927935,288230376151711743,576460752303423487,1152921504606846975,72057594037927935,72057594037927935,72057594037927935,13907115649320091647,32353859723029643263,69247347870448746495,145340167174500646911,292914119764177059839,588062024943529885695,1180591620717411303423,2361183241434822606847] mo ?_
        iterate 3 refine ChM.pu ?_
        iterate 12 refine ChM.gi ?_
        iterate 2 refine ChM.pu ?_
        iterate 6 refine ChM.gi ?_
        iterate 2 refine ChM.pu ?_
        iterate 8 refine ChM.gi ?_
        iterate 2 refine ChM.pu ?_
        iterate 10 refine ChM.gi ?_
        iterate 2 refine ChM.pu ?_
        iterate 7 refine ChM.gi ?_
        iterate 2 refine ChM.pu ?_
        iterate 15 refine ChM.gi ?_
        refine ChM.pu ?_
        refine ChM.tl ?_
        refine Ex.nil ?_
        refine X.cd rfl (fun hc4 => ?_) (fun hc4 => ?_)
        · omega
        refine X.skip ?_
        exact X.imp Imp.ax hJ17
      refine X.seqJ ⟨[(5, .bool true), (6, .ptr 6 0 0 0), (7, sgsA l), (11, itsA x), (13, .bool (plnK l l.length)), (15, iv (k : Int)), (16, .ptr 16 0 0 0), (17, iv 0)], [(6, .box (mnE m) 23), (16, .box (tmE (fullT m Xi.Value)) 51)]⟩ (fun hJ18 => ?_) ?_
      · refine X.dw [16,156,157,158,159,160,161,162,163,164,165] [0,0,0,6,14,30,63,127,255,255,0,1535,4095] mo ?_
        iterate 6 refine ChM.pu ?_
        refine ChM.ca hFu ?_
        iterate 3 refine ChM.pu ?_
        refine ChM.step rfl rfl rfl (A_alloc (k := 16) zc51) rfl ?_
        refine ChM.lt 9 ?_ ?_
        · refine Ex.mo ?_
          refine Ex.pu ?_
          refine Ex.nil ?_
          exact X.imp Imp.ax hJ18
        · refine Ex.mo ?_
          iterate 2 refine Ex.pu ?_
          refine Ex.nil ?_
          exact X.imp Imp.ax hJ18
      refine X.seq ?_
      refine X.dw [166,167,168,169,170,171,172,173,174,175,176,177,178,179,180,181,182,183,184,185,186,187,188,189,190,191,192,193,194,195,196,197,198,199,200,201,202,203,204,205,206,207,208,209,210] [0,1,3,7,15,31,31,127,255,511,1023,2047,4095,8191,8191,32767,65535,131071,262143,524287,1048575,1048575,4194303,8388607,16777215,1048575,67108863,134217727,268435455,536870911,1073741823,2147483647,4294967295,4294967295,17179869183,34359738367,68719476735,4294967295,4294967295,416611827711,966367641599,2065879269375,4398046511103,8796093022207,17592186044415] mo ?_
      iterate 3 refine ChM.pu ?_
      iterate 21 refine ChM.gi ?_
      refine ChM.gi ?_ (hs := by intro hgd; exact P_load_ept_pt rfl rfl rfl rfl TyK.h)
      iterate 3 refine ChM.gi ?_
      iterate 2 refine ChM.pu ?_
      iterate 14 refine ChM.gi ?_
      refine ChM.pu ?_
      refine ChM.tl ?_
      refine Ex.nil ?_
      refine X.cd rfl (fun hc5 => ?_) (fun hc5 => ?_)
      · exact absurd hc5 (by simp; exact ⟨fun h => by rcases h with (h | h) | h; exact (hpp h).1; (rw [hV]; exact hfx (.inl h)); (rw [hV]; exact hfx (.inr h)), fun h => (hpp h).2⟩)
      refine X.skip ?_
      refine X.region ?_
      iterate 3 refine Ex.pu ?_
      refine Ex.nil ?_
      refine X.bk (k + 1)
    · clear hit
      refine X.exit ?_
      refine X.seq ?_
      refine X.region ?_
      iterate 2 refine Ex.pu ?_
      refine Ex.ca (C_item_Count m l (by omega)) ?_
      iterate 5 refine Ex.pu ?_
      refine Ex.nil ?_
      refine X.seq ?_
      refine X.region ?_
      refine Ex.pu ?_
      refine ExF.at 1 ?_
      refine ExF.pu ?_
      iterate 10 refine ExF.gi ?_
      refine ExF.done ?_
      iterate 2 refine Ex.pu ?_
      refine Ex.nil ?_
      refine X.ret ?_
      refine RetQ.ret (.one (.tmp rfl (LeV.eq ?_)))
      all_goals (first | rfl | (cases hp : plnK l l.length <;> simp [hp, hpi]))
end Go.Rse
