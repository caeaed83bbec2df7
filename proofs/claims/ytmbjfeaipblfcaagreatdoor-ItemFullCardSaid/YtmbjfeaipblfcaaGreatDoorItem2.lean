/-
  Walks: the reference's items.
-/
import Derived.Test.YtmbjfeaipblfcaaGreatDoorItem1
import Derived.Test.YtmbjfeaipblfcaaGreatDoorRef1b
import Derived.Test.YtmbjfeaipblfcaaGreatDoorRef9b
namespace Go.Rse
open Go Go.Proofs
set_option linter.unusedVariables false
set_option linter.unusedSimpArgs false
attribute [local irreducible] Pur StepA StepM Ex X ExG Fn Imp LeV LeB FnO It YStep
def rmOk (m : Mn) (v : Int) : Bool := decide (rmV (fullT m v) ⟨3, 2⟩ = mulV (fullT m v) ⟨3, 2⟩) && decide (rmV (durT m v) ⟨3, 2⟩ = mulV (durT m v) ⟨3, 2⟩)
theorem rmOk_all : ckAll rmOk = true := by kernel_rfl
theorem rm_eq {m : Mn} {s : Sg} {z : Tm} (hm : ckM m = 0) (h1 : 1 ≤ s.Value) (h8 : s.Value ≤ 8) (hz : z = bsT m s ∨ z = ⟨3, 2⟩ ∨ z = ⟨1, 2⟩) : rmV z ⟨3, 2⟩ = mulV z ⟨3, 2⟩ := by
  rcases hz with rfl | rfl | rfl
  · have h := ckAll_use rmOk_all hm h1 h8
    unfold rmOk at h
    simp only [Bool.and_eq_true, decide_eq_true_eq] at h
    unfold bsT; split
    · exact h.2
    · exact h.1
  · decide +kernel
  · decide +kernel
attribute [local irreducible] mkC mkA mkE duV duE itK itOf ckD mulV mulE rmV rmE
set_option maxHeartbeats 4000000 in
theorem C_tactusref13_Items (m : Mn) (l : List Sg) (ch mi : List Int) (hl : l.length ≤ 1000) (hch : ch.length ≤ 4000000) (hmi : mi.length ≤ 1000) : Fn Tryz.prog 19 [mnA m, sgsA l, intsA ch, intsA mi] (.tup [itsA (itmV m l ch mi), iv (itmE m l ch mi)]) := by
  refine Fn.go Tryz.func19 Tryz.ntmps19 (fun g w d => ?_)
  refine X.seq ?_
  refine X.region ?_
  refine Ex.ba ?_
  iterate 2 refine Ex.pu ?_
  refine Ex.nil ?_
  refine X.seq ?_
  refine X.region ?_
  iterate 3 refine Ex.pu ?_
  refine Ex.ca (C_tactusref09_Marks m l hl ch hch) ?_
  iterate 7 refine Ex.pu ?_
  refine Ex.nil ?_
  refine X.seq ?_
  refine X.seq ?_
  refine X.region ?_
  iterate 2 refine Ex.pu ?_
  refine Ex.nil ?_
  refine X.cd rfl (fun hc1 => ?_) (fun hc1 => ?_)
  · have hE : itmE m l ch mi = mkE m l ch := itmE_a hc1
    have hV : itmV m l ch mi = [] := itmV_n (by rw [hE]; exact hc1)
    refine X.seq ?_
    refine X.region ?_
    iterate 3 refine Ex.pu ?_
    refine Ex.nil ?_
    refine X.ret ?_
    refine RetQ.imp (Imp.au (ts := [(8, itsA []), (9, iv (mkE m l ch))]) (hs := [])) ?_
    refine RetQ.ret (.many (by decide) (.cons (.tmp rfl (LeV.eq ?_)) (.cons (.tmp rfl (LeV.eq ?_)) .nil)))
    all_goals (first | (rw [hV]; done) | (rw [hE]; done) | (rw [hV]; rfl) | (rw [hE]; rfl))
  refine X.skip ?_
  refine X.seq ?_
  refine X.region ?_
  iterate 3 refine Ex.pu ?_
  refine Ex.ca (C_tactusref11_Durs m l mi hl hmi) ?_
  iterate 5 refine Ex.pu ?_
  refine Ex.nil ?_
  refine X.seq ?_
  refine X.seq ?_
  refine X.region ?_
  iterate 2 refine Ex.pu ?_
  refine Ex.nil ?_
  refine X.cd rfl (fun hc2 => ?_) (fun hc2 => ?_)
  · have hE : itmE m l ch mi = duE m l mi := itmE_b hc1
    have hV : itmV m l ch mi = [] := itmV_n (by rw [hE]; exact hc2)
    refine X.seq ?_
    refine X.region ?_
    iterate 3 refine Ex.pu ?_
    refine Ex.nil ?_
    refine X.ret ?_
    refine RetQ.imp (Imp.au (ts := [(8, itsA []), (9, iv (duE m l mi))]) (hs := [])) ?_
    refine RetQ.ret (.many (by decide) (.cons (.tmp rfl (LeV.eq ?_)) (.cons (.tmp rfl (LeV.eq ?_)) .nil)))
    all_goals (first | (rw [hV]; done) | (rw [hE]; done) | (rw [hV]; rfl) | (rw [hE]; rfl))
  have hE : itmE m l ch mi = 0 := (itmE_b hc1).trans hc2
  have hV := itmV_y hE
  refine X.skip ?_
  refine X.seq ?_
  refine X.region ?_
  refine Ex.pu ?_
  refine Ex.nil ?_
  refine X.seq ?_
  refine X.seq ?_
  refine X.imp (Imp.mkrow itE 53 12 14 201 rfl rfl) ?_
  refine X.region ?_
  refine Ex.pu ?_
  refine Ex.nil ?_
  refine X.block ?_
  have hr0 := itK_0 l (mkC m l ch) (mkA m l ch) (duV m l mi)
  refine X.lp (ι := Nat) (fun (k : Nat) => [(1, sgsA l), (10, intsA (mkC m l ch)), (11, boolsA (mkA m l ch)), (13, tmsA (duV m l mi)), (14, .own 201), (15, iv (k : Int))]) (fun (k : Nat) => [(201, .row itE (itK l (mkC m l ch) (mkA m l ch) (duV m l mi) k) 53 12)]) (fun (k : Nat) => k ≤ l.length) (fun (k : Nat) => l.length - k) 0 (fun k hk => ?_)
  refine X.seq ?_
  refine X.seq ?_
  refine X.region ?_
  iterate 4 refine Ex.pu ?_
  refine Ex.nil ?_
  refine X.cd rfl (fun hc3 => ?_) (fun hc3 => ?_)
  · obtain ⟨s, hs⟩ : ∃ s, l[k]? = some s := ⟨_, List.getElem?_eq_getElem (by omega)⟩
    have hs2 : l[(k : Int).toNat]? = some s := by simpa using hs
    have hnt := itK_nt l (mkC m l ch) (mkA m l ch) (duV m l mi) k
    have hnl := ntN_le l k
    refine X.skip ?_
    refine X.seq ?_
    refine X.block ?_
    refine X.seq ?_
    refine X.seq ?_
    refine X.region ?_
    iterate 6 refine Ex.pu ?_
    refine Ex.nil ?_
    refine X.cd rfl (fun hc4 => ?_) (fun hc4 => ?_)
    · have hst := itK_dot (c := mkC m l ch) (a := mkA m l ch) (d := duV m l mi) hs hc4
      refine X.exit ?_
      refine X.region ?_
      iterate 3 refine Ex.pu ?_
      refine Ex.nil ?_
      refine X.bk (k + 1)
    obtain ⟨x, y, z, hx, hy, hz, hmul, hlt, hm, v1, v8, hzz⟩ := it_at hc1 hc2 hs hc4
    have hst := itK_nr hs hc4 hx hy hz
    have hx2 : (mkC m l ch)[((itK l (mkC m l ch) (mkA m l ch) (duV m l mi) k).length : Int).toNat]? = some x := by rw [hnt]; simpa using hx
    have hy2 : (mkA m l ch)[((itK l (mkC m l ch) (mkA m l ch) (duV m l mi) k).length : Int).toNat]? = some y := by rw [hnt]; simpa using hy
    have hz2 : (duV m l mi)[((itK l (mkC m l ch) (mkA m l ch) (duV m l mi) k).length : Int).toNat]? = some z := by rw [hnt]; simpa using hz
    have hk12 := ck_kind (ck_mkE hc1) hs hc4
    have hB15 : [iv k, iv s.Value, .bool (decide (s.Kind = 2)), .bool (s.Color && !decide (s.Kind = 2)), .bool false, iv x, iv z.N, iv z.D, iv 0, iv 1, iv 0, iv 1] = [iv k, iv s.Value, .bool (decide (s.Kind = 2)), .bool (decide (s.Kind = 1) && s.Color), .bool false, iv x, iv z.N, iv z.D, iv 0, iv 1, iv 0, iv 1] := by rw [col_eq hk12]
    have hMul := C_tactusref01_Mul z ⟨3, 2⟩
    rw [rm_eq hm v1 v8 hzz] at hMul
    rw [← itL_r hk12] at hst
    refine X.skip ?_
    refine X.seq ?_
    refine X.region ?_
    iterate 3 refine Ex.pu ?_
    refine Ex.nil ?_
    refine X.seqJ ⟨[(1, sgsA l), (10, intsA (mkC m l ch)), (11, boolsA (mkA m l ch)), (13, tmsA (duV m l mi)), (14, .own 201), (15, iv (k : Int)), (16, iv ((itK l (mkC m l ch) (mkA m l ch) (duV m l mi) k).length : Int)), (17, .ptr 17 0 0 0)], [(201, .row itE (itK l (mkC m l ch) (mkA m l ch) (duV m l mi) k) 53 12), (17, .box [iv k, iv s.Value, .bool (decide (s.Kind = 2)), .bool false, .bool false, iv x, iv z.N, iv z.D, iv 0, iv 1, iv 0, iv 1] 53)]⟩ (fun hJ14 => ?_) ?_
    · refine X.dw [17,53,54,55,56,57,58,59,60,61,62,63,64,65,66,67,68,69,70,71,72,73,74,75] [0,0,0,6,14,30,0,0,192,448,960,1984,0,0,12288,28672,0,0,196608,458752,0,0,4194303,0,16777215] mo ?_
      iterate 23 refine ChM.pu ?_
      refine ChM.step rfl rfl rfl (A_alloc (k := 17) zc53) rfl ?_
      refine ChM.tl ?_
      refine Ex.mo ?_
      refine Ex.nil ?_
      exact X.imp Imp.ax hJ14
    refine X.seqJ ⟨[(1, sgsA l), (10, intsA (mkC m l ch)), (11, boolsA (mkA m l ch)), (13, tmsA (duV m l mi)), (14, .own 201), (15, iv (k : Int)), (16, iv ((itK l (mkC m l ch) (mkA m l ch) (duV m l mi) k).length : Int)), (17, .ptr 17 0 0 0)], [(201, .row itE (itK l (mkC m l ch) (mkA m l ch) (duV m l mi) k) 53 12), (17, .box [iv k, iv s.Value, .bool (decide (s.Kind = 2)), .bool (decide (s.Kind = 1) && s.Color), .bool false, iv x, iv z.N, iv z.D, iv 0, iv 1, iv 0, iv 1] 53)]⟩ (fun hJ15 => ?_) ?_
    · refine X.region ?_
      iterate 5 refine Ex.pu ?_
      refine ExF.at 5 ?_
      refine ExF.pu ?_
      iterate 3 refine ExF.gi ?_
      refine ExF.done ?_
      iterate 2 refine Ex.pu ?_
      refine Ex.mo ?_
      refine Ex.nil ?_
      exact X.imp Imp.ax hJ15
    refine X.seq ?_
    refine X.seq ?_
    refine X.region ?_
    iterate 4 refine Ex.pu ?_
    refine Ex.nil ?_
    refine X.cd rfl (fun hc5 => ?_) (fun hc5 => ?_)
    · subst hc5
      refine X.region ?_
      iterate 3 refine Ex.pu ?_
      refine Ex.ca hMul ?_
      iterate 4 refine Ex.pu ?_
      refine Ex.mo ?_
      refine Ex.nil ?_
      refine X.seq ?_
      refine X.region ?_
      iterate 2 refine Ex.pu ?_
      refine ExF.at 2 ?_
      refine ExF.pu ?_
      iterate 2 refine ExF.gi ?_
      iterate 2 refine ExF.pu ?_
      iterate 4 refine ExF.gi ?_
      iterate 2 refine ExF.pu ?_
      iterate 5 refine ExF.gi ?_
      refine ExF.done ?_
      iterate 2 refine Ex.pu ?_
      refine Ex.mo ?_
      refine Ex.nil ?_
      refine X.region ?_
      iterate 2 refine Ex.pu ?_
      refine Ex.bs itE [itL k s (decide (s.Kind = 2) || (decide (s.Kind = 1) && s.Color) || true || decide (x = s.Value)) x (mulV z ⟨3, 2⟩)] ?_
      refine Ex.mo ?_
      refine Ex.pu ?_
      refine Ex.nil ?_
      refine X.region ?_
      iterate 3 refine Ex.pu ?_
      refine Ex.nil ?_
      refine X.bk (k + 1)
    · subst hc5
      refine X.skip ?_
      refine X.seq ?_
      refine X.region ?_
      iterate 2 refine Ex.pu ?_
      refine ExF.at 2 ?_
      refine ExF.pu ?_
      iterate 2 refine ExF.gi ?_
      iterate 2 refine ExF.pu ?_
      iterate 4 refine ExF.gi ?_
      iterate 2 refine ExF.pu ?_
      iterate 5 refine ExF.gi ?_
      refine ExF.done ?_
      iterate 2 refine Ex.pu ?_
      refine Ex.mo ?_
      refine Ex.nil ?_
      refine X.region ?_
      iterate 2 refine Ex.pu ?_
      refine Ex.bs itE [itL k s (decide (s.Kind = 2) || (decide (s.Kind = 1) && s.Color) || false || decide (x = s.Value)) x z] ?_
      refine Ex.mo ?_
      refine Ex.pu ?_
      refine Ex.nil ?_
      refine X.region ?_
      iterate 3 refine Ex.pu ?_
      refine Ex.nil ?_
      refine X.bk (k + 1)
  · have hkl : k = l.length := by omega
    subst hkl
    refine X.exit ?_
    refine X.seq ?_
    refine X.region ?_
    iterate 3 refine Ex.pu ?_
    refine Ex.nil ?_
    refine X.ret ?_
    refine RetQ.imp (Imp.freeze (k := 201) rfl) ?_
    refine RetQ.ret (.many (by decide) (.cons (.tmp rfl (LeV.eq ?_)) (.cons (.tmp rfl (LeV.eq ?_)) .nil)))
    all_goals (first | (rw [hV]; done) | (rw [hE]; done) | (rw [hV]; rfl) | (rw [hE]; rfl))
end Go.Rse
