/-
  Walks: full durations, and the perfect values.
-/
import Derived.Test.YtmbjfeaipblfcaaGreatDoorRef1
import Derived.Test.YtmbjfeaipblfcaaGreatDoorRef5
namespace Go.Rse
open Go Go.Proofs
set_option linter.unusedVariables false
set_option linter.unusedSimpArgs false
attribute [local irreducible] Pur StepA StepM Ex X ExG Fn Imp LeV LeB FnO It YStep
def prodF (m : Mn) (v : Int) : Nat → Int
  | 0 => 1
  | n + 1 => prodF m v n * m.p (v + n)
def dbl : Nat → Int
  | 0 => 1
  | n + 1 => dbl n * 2
def fullT (m : Mn) (v : Int) : Tm := ⟨prodF m v (5 - v).toNat, dbl (v - 5).toNat⟩
theorem ckM_two {m : Mn} (h : ckM m = 0) (v : Int) (h1 : 1 ≤ v) : m.p v = 2 ∨ m.p v = 3 := by
  rcases Int.lt_or_le 4 v with h4 | h4
  · exact .inl (p_big h4)
  · have ho : m.Ok := by
      unfold ckM at h; split at h
      · assumption
      · simp at h
    exact m.ok_iff.1 ho v h1 h4
def pw3 : Nat → Int
  | 0 => 1
  | n + 1 => pw3 n * 3
theorem prodF_b {m : Mn} (h : ckM m = 0) {v : Int} (h1 : 1 ≤ v) : ∀ n, 1 ≤ prodF m v n ∧ prodF m v n ≤ pw3 n
  | 0 => ⟨Int.le_refl _, Int.le_refl _⟩
  | n + 1 => by
    obtain ⟨a, b⟩ := prodF_b h h1 n
    simp only [prodF, pw3]
    rcases ckM_two h (v + n) (by omega) with e | e <;> rw [e] <;> omega
theorem pw3_b : ∀ n, n ≤ 4 → pw3 n ≤ 81
  | 0, _ => by decide
  | 1, _ => by decide
  | 2, _ => by decide
  | 3, _ => by decide
  | 4, _ => by decide
  | n + 5, h => by omega
theorem dbl_b : ∀ n, n ≤ 3 → 1 ≤ dbl n ∧ dbl n ≤ 8
  | 0, _ => by decide
  | 1, _ => by decide
  | 2, _ => by decide
  | 3, _ => by decide
  | n + 4, h => by omega
theorem ckMV_M {m : Mn} {v : Int} (h : ckMV m v = 0) : ckM m = 0 ∧ 1 ≤ v ∧ v ≤ 8 := by
  have h2 := ckMV_ok h
  refine ⟨?_, h2⟩
  unfold ckMV at h; unfold ckM
  split at h
  · rw [if_pos (by assumption)]
  · omega
def perfK (m : Mn) (j : Nat) : List Int := (([4, 3, 2, 1] : List Int).take j).filter fun v => decide (m.p v = 3)
theorem perfK_len (m : Mn) (j : Nat) : (perfK m j).length ≤ 4 := by
  unfold perfK
  refine Nat.le_trans (List.length_filter_le _ _) ?_
  simp; omega
theorem perfK_get (j : Nat) (h : j < 4) : ([4, 3, 2, 1] : List Int)[j]? = some (4 - (j : Int)) := by
  have : j = 0 ∨ j = 1 ∨ j = 2 ∨ j = 3 := by omega
  rcases this with rfl | rfl | rfl | rfl <;> rfl
theorem perfK_yes {m : Mn} {j : Nat} (h : j < 4) (hp : m.p (4 - (j : Int)) = 3) : perfK m j ++ [4 - (j : Int)] = perfK m (j + 1) := by
  unfold perfK
  rw [List.take_add_one, perfK_get j h, List.filter_append]; simp [hp]
theorem perfK_no {m : Mn} {j : Nat} (h : j < 4) (hp : ¬ m.p (4 - (j : Int)) = 3) : perfK m j = perfK m (j + 1) := by
  unfold perfK
  rw [List.take_add_one, perfK_get j h, List.filter_append]; simp [hp]
theorem perfK_end (m : Mn) : perfK m 4 = perfL m := rfl
theorem prodF_s (m : Mn) (v : Int) (j : Nat) : prodF m v j * m.p (v + (j : Int)) = prodF m v (j + 1) := rfl
theorem dbl_s (j : Nat) : dbl j * 2 = dbl (j + 1) := rfl
theorem dbl_s' (j : Nat) : 2 * dbl j = dbl (j + 1) := by rw [← dbl_s]; exact Int.mul_comm _ _
attribute [local irreducible] prodF dbl perfK perfL
theorem C_mens_full (m : Mn) (v : Int) (hm : ckM m = 0) (h1 : 1 ≤ v) (h8 : v ≤ 8) : Fn Tryz.prog 90 [mnA m, iv v] (tmA (fullT m v)) := by
  have hp0 : prodF m v 0 = 1 := by unfold prodF; rfl
  have hd0 : dbl 0 = 1 := by unfold dbl; rfl
  refine Fn.go Tryz.func90 Tryz.ntmps90 (fun g w d => ?_)
  refine X.seq ?_
  refine X.region ?_
  refine Ex.ba ?_
  refine Ex.al ?_
  refine Ex.nil ?_
  refine X.seq ?_
  refine X.region ?_
  iterate 2 refine Ex.pu ?_
  refine Ex.nil ?_
  refine X.seq ?_
  refine X.seq ?_
  refine X.region ?_
  iterate 2 refine Ex.pu ?_
  refine Ex.nil ?_
  refine X.block ?_
  refine X.lp (ι := Nat) (fun (j : Nat) => [(1, iv v), (2, .ptr 2 0 0 0), (4, .ptr 4 0 0 0), (5, iv (prodF m v j)), (6, iv 1), (7, iv (v + (j : Int)))]) (fun (j : Nat) => [(2, .box (mnE m) 23), (4, .box [iv 0, iv 0] 51)]) (fun (j : Nat) => j ≤ (5 - v).toNat) (fun (j : Nat) => (5 - v).toNat - j) 0 (fun j hk => ?_)
  refine X.seq ?_
  refine X.seq ?_
  refine X.region ?_
  iterate 2 refine Ex.pu ?_
  refine Ex.nil ?_
  refine X.cd rfl (fun hc1 => ?_) (fun hc1 => ?_)
  · have hjv : j < (5 - v).toNat := by omega
    have hb := prodF_b (m := m) hm h1 j
    have hb2 := pw3_b j (by omega)
    have hp := ckM_two hm (v + j) (by omega)
    have hst := prodF_s m v j
    have hpm : 0 ≤ prodF m v j * m.p (v + (j : Int)) ∧ prodF m v j * m.p (v + (j : Int)) ≤ 1000 := by rcases hp with e | e <;> rw [e] <;> omega
    refine X.skip ?_
    refine X.seq ?_
    refine X.block ?_
    refine X.region ?_
    iterate 3 refine Ex.pu ?_
    refine Ex.ca (C_mens_of m (v + (j : Int)) (by omega) (by omega)) ?_
    iterate 2 refine Ex.pu ?_
    refine Ex.nil ?_
    refine X.region ?_
    iterate 3 refine Ex.pu ?_
    refine Ex.nil ?_
    refine X.bk (j + 1)
  · have hj : j = (5 - v).toNat := by omega
    subst hj
    refine X.exit ?_
    refine X.seq ?_
    refine X.seq ?_
    refine X.region ?_
    refine Ex.pu ?_
    refine Ex.nil ?_
    refine X.block ?_
    refine X.lp (ι := Nat) (fun (j : Nat) => [(1, iv v), (2, .ptr 2 0 0 0), (4, .ptr 4 0 0 0), (5, iv (prodF m v (5 - v).toNat)), (6, iv (dbl j)), (8, iv (5 + (j : Int)))]) (fun (j : Nat) => [(2, .box (mnE m) 23), (4, .box [iv 0, iv 0] 51)]) (fun (j : Nat) => j ≤ (v - 5).toNat) (fun (j : Nat) => (v - 5).toNat - j) 0 (fun j hk => ?_)
    refine X.seq ?_
    refine X.seq ?_
    refine X.region ?_
    iterate 3 refine Ex.pu ?_
    refine Ex.nil ?_
    refine X.cd rfl (fun hc2 => ?_) (fun hc2 => ?_)
    · have hb := dbl_b j (by omega)
      have hst := dbl_s j
      refine X.skip ?_
      refine X.seq ?_
      refine X.block ?_
      refine X.region ?_
      iterate 3 refine Ex.pu ?_
      refine Ex.nil ?_
      refine X.region ?_
      iterate 3 refine Ex.pu ?_
      refine Ex.nil ?_
      refine X.bk (j + 1)
    · have hj : j = (v - 5).toNat := by omega
      subst hj
      refine X.exit ?_
      refine X.seq ?_
      refine X.region ?_
      iterate 3 refine Ex.pu ?_
      refine Ex.mo ?_
      refine Ex.nil ?_
      refine X.ret ?_
      refine RetQ.ret (.one (.cellA rfl rfl rfl rfl ty51 (LeV.eq ?_)))
      all_goals (rfl)
theorem C_mens_Full (m : Mn) (v : Int) : Fn Tryz.prog 32 [mnA m, iv v] (.tup [tmA (if ckMV m v = 0 then fullT m v else tmZ), iv (ckMV m v)]) := by
  refine Fn.go Tryz.func32 Tryz.ntmps32 (fun g w d => ?_)
  refine X.seq ?_
  refine X.region ?_
  refine Ex.ba ?_
  refine Ex.al ?_
  refine Ex.pu ?_
  refine Ex.nil ?_
  refine X.seq ?_
  refine X.seq ?_
  refine X.region ?_
  iterate 2 refine Ex.pu ?_
  refine Ex.ca (C_mens_checked m v) ?_
  refine Ex.pu ?_
  refine Ex.nil ?_
  refine X.seq ?_
  refine X.region ?_
  iterate 2 refine Ex.pu ?_
  refine Ex.nil ?_
  refine X.cd rfl (fun hc1 => ?_) (fun hc1 => ?_)
  · refine X.seq ?_
    refine X.region ?_
    iterate 2 refine Ex.pu ?_
    refine Ex.mo ?_
    refine Ex.pu ?_
    refine Ex.nil ?_
    refine X.ret ?_
    refine RetQ.ret (.many (by decide) (.cons (.cellA rfl rfl rfl rfl ty51 (LeV.eq ?_)) (.cons (.tmp rfl (LeV.eq ?_)) .nil)))
    all_goals (first | rfl | (rw [if_neg hc1]; done) | (rw [if_neg hc1]; rfl) | (rw [if_pos hc1]; done) | (rw [if_pos hc1]; rfl) | (rw [hc1]; done) | (rw [hc1]; rfl))
  have h3 := ckMV_M hc1
  refine X.skip ?_
  refine X.seq ?_
  refine X.region ?_
  iterate 2 refine Ex.pu ?_
  refine Ex.ca (C_mens_full m v h3.1 h3.2.1 h3.2.2) ?_
  refine Ex.mo ?_
  refine Ex.pu ?_
  refine Ex.nil ?_
  refine X.ret ?_
  refine RetQ.ret (.many (by decide) (.cons (.cellA rfl rfl rfl rfl ty51 (LeV.eq ?_)) (.cons (.tmp rfl (LeV.eq ?_)) .nil)))
  all_goals (first | rfl | (rw [if_neg hc1]; done) | (rw [if_neg hc1]; rfl) | (rw [if_pos hc1]; done) | (rw [if_pos hc1]; rfl) | (rw [hc1]; done) | (rw [hc1]; rfl))
theorem C_tactusref05_Full (m : Mn) (v : Int) : Fn Tryz.prog 130 [mnA m, iv v] (.tup [tmA (if ckMV m v = 0 then fullT m v else tmZ), iv (ckMV m v)]) := by
  have hp0 : prodF m v 0 = 1 := by unfold prodF; rfl
  have hd0 : dbl 0 = 1 := by unfold dbl; rfl
  refine Fn.go Tryz.func130 Tryz.ntmps130 (fun g w d => ?_)
  refine X.seq ?_
  refine X.region ?_
  refine Ex.ba ?_
  refine Ex.al ?_
  refine Ex.pu ?_
  refine Ex.nil ?_
  refine X.seq ?_
  refine X.region ?_
  iterate 2 refine Ex.pu ?_
  refine Ex.ca (C_tactusref05_value m v) ?_
  refine Ex.pu ?_
  refine Ex.nil ?_
  refine X.seq ?_
  refine X.seq ?_
  refine X.region ?_
  iterate 2 refine Ex.pu ?_
  refine Ex.nil ?_
  refine X.cd rfl (fun hc1 => ?_) (fun hc1 => ?_)
  · refine X.seq ?_
    refine X.region ?_
    iterate 2 refine Ex.pu ?_
    refine Ex.mo ?_
    refine Ex.pu ?_
    refine Ex.nil ?_
    refine X.ret ?_
    refine RetQ.ret (.many (by decide) (.cons (.cellA rfl rfl rfl rfl ty51 (LeV.eq ?_)) (.cons (.tmp rfl (LeV.eq ?_)) .nil)))
    all_goals (first | rfl | (rw [if_neg hc1]; done) | (rw [if_neg hc1]; rfl) | (rw [if_pos hc1]; done) | (rw [if_pos hc1]; rfl) | (rw [hc1]; done) | (rw [hc1]; rfl))
  have h3 := ckMV_M hc1
  have hm := h3.1
  have h1 := h3.2.1
  have h8 := h3.2.2
  refine X.skip ?_
  refine X.seq ?_
  refine X.region ?_
  iterate 2 refine Ex.pu ?_
  refine Ex.nil ?_
  refine X.seq ?_
  refine X.seq ?_
  refine X.region ?_
  iterate 2 refine Ex.pu ?_
  refine Ex.nil ?_
  refine X.block ?_
  refine X.lp (ι := Nat) (fun (j : Nat) => [(1, iv v), (2, .ptr 2 0 0 0), (4, .ptr 4 0 0 0), (5, iv 0), (7, iv (prodF m v j)), (8, iv 1), (9, iv (v + (j : Int)))]) (fun (j : Nat) => [(2, .box (mnE m) 23), (4, .box [iv 0, iv 0] 51)]) (fun (j : Nat) => j ≤ (5 - v).toNat) (fun (j : Nat) => (5 - v).toNat - j) 0 (fun j hk => ?_)
  refine X.seq ?_
  refine X.seq ?_
  refine X.region ?_
  iterate 2 refine Ex.pu ?_
  refine Ex.nil ?_
  refine X.cd rfl (fun hc2 => ?_) (fun hc2 => ?_)
  · have hjv : j < (5 - v).toNat := by omega
    have hb := prodF_b (m := m) hm h1 j
    have hb2 := pw3_b j (by omega)
    have hp := ckM_two hm (v + j) (by omega)
    have hst := prodF_s m v j
    have hpm : 0 ≤ prodF m v j * m.p (v + (j : Int)) ∧ prodF m v j * m.p (v + (j : Int)) ≤ 1000 := by rcases hp with e | e <;> rw [e] <;> omega
    refine X.skip ?_
    refine X.seq ?_
    refine X.block ?_
    refine X.region ?_
    iterate 3 refine Ex.pu ?_
    refine Ex.ca (C_tactusref05_P m (v + (j : Int))) ?_
    iterate 2 refine Ex.pu ?_
    refine Ex.nil ?_
    refine X.region ?_
    iterate 3 refine Ex.pu ?_
    refine Ex.nil ?_
    refine X.bk (j + 1)
  · have hj : j = (5 - v).toNat := by omega
    subst hj
    refine X.exit ?_
    refine X.seq ?_
    refine X.seq ?_
    refine X.region ?_
    iterate 2 refine Ex.pu ?_
    refine Ex.nil ?_
    refine X.block ?_
    refine X.lp (ι := Nat) (fun (j : Nat) => [(1, iv v), (2, .ptr 2 0 0 0), (4, .ptr 4 0 0 0), (5, iv 0), (7, iv (prodF m v (5 - v).toNat)), (8, iv (dbl j)), (10, iv (v - (j : Int)))]) (fun (j : Nat) => [(2, .box (mnE m) 23), (4, .box [iv 0, iv 0] 51)]) (fun (j : Nat) => j ≤ (v - 5).toNat) (fun (j : Nat) => (v - 5).toNat - j) 0 (fun j hk => ?_)
    refine X.seq ?_
    refine X.seq ?_
    refine X.region ?_
    iterate 2 refine Ex.pu ?_
    refine Ex.nil ?_
    refine X.cd rfl (fun hc3 => ?_) (fun hc3 => ?_)
    · have hb := dbl_b j (by omega)
      have hst := dbl_s' j
      refine X.skip ?_
      refine X.seq ?_
      refine X.block ?_
      refine X.region ?_
      iterate 3 refine Ex.pu ?_
      refine Ex.nil ?_
      refine X.region ?_
      iterate 3 refine Ex.pu ?_
      refine Ex.nil ?_
      refine X.bk (j + 1)
    · have hj : j = (v - 5).toNat := by omega
      subst hj
      refine X.exit ?_
      refine X.seq ?_
      refine X.region ?_
      iterate 3 refine Ex.pu ?_
      refine Ex.mo ?_
      refine Ex.pu ?_
      refine Ex.nil ?_
      refine X.ret ?_
      refine RetQ.ret (.many (by decide) (.cons (.cellA rfl rfl rfl rfl ty51 (LeV.eq ?_)) (.cons (.tmp rfl (LeV.eq ?_)) .nil)))
      all_goals (first | rfl | (rw [if_neg hc1]; done) | (rw [if_neg hc1]; rfl) | (rw [if_pos hc1]; done) | (rw [if_pos hc1]; rfl) | (rw [hc1]; done) | (rw [hc1]; rfl))
theorem C_tactusref05_Levels (m : Mn) : Fn Tryz.prog 104 [mnA m] (.tup [intsA (if ckM m = 0 then perfL m else []), iv (ckM m)]) := by
  have hq0 : [] = perfK m 0 := by unfold perfK; rfl
  have hq4 := perfK_end m
  refine Fn.go Tryz.func104 Tryz.ntmps104 (fun g w d => ?_)
  refine X.seq ?_
  refine X.region ?_
  refine Ex.ba ?_
  iterate 2 refine Ex.pu ?_
  refine Ex.nil ?_
  refine X.seq ?_
  refine X.region ?_
  refine Ex.pu ?_
  refine Ex.ca (C_tactusref05_Check m) ?_
  refine Ex.pu ?_
  refine Ex.nil ?_
  refine X.seq ?_
  refine X.seq ?_
  refine X.region ?_
  iterate 2 refine Ex.pu ?_
  refine Ex.nil ?_
  refine X.cd rfl (fun hc1 => ?_) (fun hc1 => ?_)
  · refine X.seq ?_
    refine X.region ?_
    iterate 3 refine Ex.pu ?_
    refine Ex.nil ?_
    refine X.ret ?_
    refine RetQ.imp (Imp.au (ts := [(2, intsA []), (3, iv (ckM m))]) (hs := [])) ?_
    refine RetQ.ret (.many (by decide) (.cons (.tmp rfl (LeV.eq ?_)) (.cons (.tmp rfl (LeV.eq ?_)) .nil)))
    all_goals (first | (rw [if_neg hc1]; done) | rfl | (rw [if_pos hc1, ← hq4]; rfl) | (rw [if_pos hc1, ← hq4]; done) | (rw [hc1]; done) | (rw [hc1]; rfl))
  refine X.skip ?_
  refine X.seq ?_
  refine X.region ?_
  refine Ex.pu ?_
  refine Ex.nil ?_
  refine X.seq ?_
  refine X.seq ?_
  refine X.imp (Imp.mkrow intE 3 1 5 5 rfl rfl) ?_
  refine X.region ?_
  refine Ex.pu ?_
  refine Ex.nil ?_
  refine X.block ?_
  refine X.lp (ι := Nat) (fun (j : Nat) => [(1, .ptr 1 0 0 0), (5, .own 5), (6, iv (4 - (j : Int)))]) (fun (j : Nat) => [(1, .box (mnE m) 23), (5, .row intE (perfK m j) 3 1)]) (fun (j : Nat) => j ≤ 4) (fun (j : Nat) => 4 - j) 0 (fun j hk => ?_)
  refine X.seq ?_
  refine X.seq ?_
  refine X.region ?_
  iterate 2 refine Ex.pu ?_
  refine Ex.nil ?_
  refine X.cd rfl (fun hc2 => ?_) (fun hc2 => ?_)
  · have hlen := perfK_len m j
    refine X.skip ?_
    refine X.seq ?_
    refine X.block ?_
    refine X.seq ?_
    refine X.region ?_
    iterate 2 refine Ex.pu ?_
    refine Ex.ca (C_tactusref05_P m (4 - (j : Int))) ?_
    refine Ex.pu ?_
    refine Ex.nil ?_
    refine X.cd rfl (fun hc3 => ?_) (fun hc3 => ?_)
    · have hrow := perfK_yes (by omega) hc3
      refine X.region ?_
      iterate 2 refine Ex.pu ?_
      refine Ex.bs intE [_] ?_
      refine Ex.mo ?_
      refine Ex.pu ?_
      refine Ex.nil ?_
      refine X.region ?_
      iterate 3 refine Ex.pu ?_
      refine Ex.nil ?_
      refine X.bk (j + 1)
    · have hrow := perfK_no (by omega) hc3
      refine X.skip ?_
      refine X.region ?_
      iterate 3 refine Ex.pu ?_
      refine Ex.nil ?_
      refine X.bk (j + 1)
  · have hj : j = 4 := by omega
    subst hj
    refine X.exit ?_
    refine X.seq ?_
    refine X.region ?_
    iterate 3 refine Ex.pu ?_
    refine Ex.nil ?_
    refine X.ret ?_
    refine RetQ.imp (Imp.freeze (k := 5) rfl) ?_
    refine RetQ.ret (.many (by decide) (.cons (.tmp rfl (LeV.eq ?_)) (.cons (.tmp rfl (LeV.eq ?_)) .nil)))
    all_goals (first | (rw [if_neg hc1]; done) | rfl | (rw [if_pos hc1, ← hq4]; rfl) | (rw [if_pos hc1, ← hq4]; done) | (rw [hc1]; done) | (rw [hc1]; rfl))
end Go.Rse
