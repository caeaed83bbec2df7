/-
  Walks: the reference for spellings: what can be lost, durations.
-/
import Derived.Test.YteecbmgddacioaaGreatRef22
namespace Go.Rse
open Go Go.Proofs
set_option linter.unusedVariables false
set_option linter.unusedSimpArgs false
attribute [local irreducible] Pur StepA StepM Ex X ExG Fn Imp LeV LeB FnO It YStep
def rlO (f : Tm → List Tm) (g : Nat → Tm) : Nat → List Tm
  | 0 => []
  | j + 1 => (f (g j)).foldl insT (rlO f g j)
def rlM (m : Mn) (v k : Int) : Int := if m.p k = 3 then (if k = v then 1 else 2) else 0
def rlG (m : Mn) (v k : Int) (t : Tm) (j : Nat) : Bool := decide ((j : Int) ≤ rlM m v k) && decide (0 < (lsT m k t j).N)
def rlK (m : Mn) (k : Int) (t : Tm) (j : Nat) : Bool := decide (cmpV (fullT m (k + 1)) (lsT m k t j) < 0)
def rlN (m : Mn) (v k : Int) (t : Tm) : Nat → Nat → Nat
  | 0, j => j
  | f + 1, j => if rlG m v k t j = true then (if rlK m k t j = true then rlN m v k t f (j + 1) else j + 1) else j
def rlL (m : Mn) (v : Int) : Nat → Int → Tm → List Tm
  | 0, k, t => [t]
  | n + 1, k, t => rlO (rlL m v n (k + 1)) (lsT m k t) (rlN m v k t 3 0)
theorem rlM_le (m : Mn) (v k : Int) : 0 ≤ rlM m v k ∧ rlM m v k ≤ 2 := by
  unfold rlM; split
  · split <;> omega
  · omega
theorem rlN_1 {m : Mn} {v k : Int} {t : Tm} : ∀ (j i f : Nat), i + f = 3 → i ≤ j → (∀ q, q < j → rlG m v k t q = true ∧ rlK m k t q = true) → rlG m v k t j = false → j ≤ 3 → rlN m v k t f i = j
  | j, i, 0, h, h1, h2, h3, h4 => by unfold rlN; omega
  | j, i, f + 1, h, h1, h2, h3, h4 => by
    unfold rlN
    rcases Nat.lt_or_ge i j with hl | hl
    · rw [if_pos (h2 i hl).1, if_pos (h2 i hl).2]
      exact rlN_1 j (i + 1) f (by omega) (by omega) h2 h3 h4
    · have : i = j := by omega
      subst this
      rw [if_neg (by rw [h3]; simp)]
theorem rlN_2 {m : Mn} {v k : Int} {t : Tm} : ∀ (j i f : Nat), i + f = 3 → i ≤ j → (∀ q, q < j → rlG m v k t q = true ∧ rlK m k t q = true) → rlG m v k t j = true → rlK m k t j = false → j ≤ 2 → rlN m v k t f i = j + 1
  | j, i, 0, h, h1, h2, h3, h4, h5 => by omega
  | j, i, f + 1, h, h1, h2, h3, h4, h5 => by
    unfold rlN
    rcases Nat.lt_or_ge i j with hl | hl
    · rw [if_pos (h2 i hl).1, if_pos (h2 i hl).2]
      exact rlN_2 j (i + 1) f (by omega) (by omega) h2 h3 h4 h5
    · have : i = j := by omega
      subst this
      rw [if_pos h3, if_neg (by rw [h4]; simp)]
theorem foldI_len : ∀ (l out : List Tm), (l.foldl insT out).length ≤ out.length + l.length
  | [], out => by simp
  | t :: r, out => by
    have h1 := foldI_len r (insT out t)
    have h2 := insT_len out t
    simp only [List.foldl_cons, List.length_cons]; omega
theorem rlO_len {f : Tm → List Tm} {g : Nat → Tm} {B : Nat} (h : ∀ t, (f t).length ≤ B) : ∀ j, (rlO f g j).length ≤ j * B
  | 0 => by simp [rlO]
  | j + 1 => by
    have h1 := rlO_len (g := g) h j
    have h2 := foldI_len (f (g j)) (rlO f g j)
    have h3 := h (g j)
    have h4 : (j + 1) * B = j * B + B := Nat.succ_mul ..
    unfold rlO; omega
theorem rlN_le (m : Mn) (v k : Int) (t : Tm) : ∀ f j, rlN m v k t f j ≤ j + f
  | 0, j => Nat.le_refl _
  | f + 1, j => by
    have := rlN_le m v k t f (j + 1)
    unfold rlN; split
    · split <;> omega
    · omega
theorem rlL_len (m : Mn) (v : Int) : ∀ n k t, (rlL m v n k t).length ≤ 3 ^ n
  | 0, k, t => by simp [rlL]
  | n + 1, k, t => by
    have h1 := rlO_len (g := lsT m k t) (rlL_len m v n (k + 1)) (rlN m v k t 3 0)
    have h2 := rlN_le m v k t 3 0
    have h3 : 3 ^ (n + 1) = 3 * 3 ^ n := by rw [Nat.pow_succ, Nat.mul_comm]
    have h4 : rlN m v k t 3 0 * 3 ^ n ≤ 3 * 3 ^ n := Nat.mul_le_mul_right _ (by omega)
    unfold rlL; omega
theorem fold_step {l out : List Tm} {i : Nat} {u : Tm} (h : l[i]? = some u) : insT ((l.take i).foldl insT out) u = (l.take (i + 1)).foldl insT out := by
  rw [List.take_add_one, h, List.foldl_append]; rfl
attribute [local irreducible] cmpV subV fullT insT rlN rlL
set_option maxHeartbeats 4000000 in
theorem C_tactusref22_lost (m : Mn) (hm : ckM m = 0) (v : Int) (h1 : 1 ≤ v) (n : Nat) (k : Int) (t : Tm) (hn : (5 - k).toNat = n) (hk1 : 1 ≤ k) (hk8 : k ≤ 8) : Fn Tryz.prog 35 [mnA m, iv v, iv k, tmA t] (tmsA (rlL m v n k t)) := by
  induction n using Nat.strongRecOn generalizing k t
  rename_i n ih
  refine Fn.go Tryz.func35 Tryz.ntmps35 (fun g w d => ?_)
  refine X.seq ?_
  refine X.region ?_
  refine Ex.ba ?_
  refine Ex.ba ?_
  refine Ex.pu ?_
  refine Ex.nil ?_
  refine X.seq ?_
  refine X.seq ?_
  refine X.region ?_
  iterate 2 refine Ex.pu ?_
  refine Ex.nil ?_
  refine X.cd rfl (fun hc1 => ?_) (fun hc1 => ?_)
  · have hn0 : n = 0 := by omega
    subst hn0
    have hV : [t] = rlL m v 0 k t := by unfold rlL; rfl
    refine X.seq ?_
    refine X.region ?_
    refine Ex.pu ?_
    refine Ex.bs tmE [t] ?_
    refine Ex.pu ?_
    refine Ex.nil ?_
    refine X.ret ?_
    refine RetQ.imp (Imp.freeze (k := 19) rfl) ?_
    refine RetQ.ret (.one (.tmp rfl (LeV.eq ?_)))
    all_goals (first | exact congrArg tmsA hV | rfl)
  obtain ⟨q, rfl⟩ : ∃ q, n = q + 1 := ⟨n - 1, by omega⟩
  have hmb := rlM_le m v k
  refine X.skip ?_
  refine X.seq ?_
  refine X.region ?_
  refine Ex.pu ?_
  refine Ex.nil ?_
  refine X.seqJ ⟨[(1, iv v), (2, iv k), (4, .ptr 4 0 0 0), (7, .ptr 7 0 0 0), (9, iv (rlM m v k))], [(4, .box (mnE m) 23), (7, .box (tmE t) 51)]⟩ (fun hJ8 => ?_) ?_
  · refine X.block ?_
    refine X.seq ?_
    refine X.region ?_
    iterate 2 refine Ex.pu ?_
    refine Ex.ca (C_tactusref05_P m k) ?_
    iterate 2 refine Ex.pu ?_
    refine Ex.nil ?_
    refine X.cd rfl (fun hc2 => ?_) (fun hc2 => ?_)
    · have hmo : (0 : Int) = rlM m v k := by unfold rlM; rw [if_neg hc2]
      refine X.region ?_
      refine Ex.pu ?_
      refine Ex.nil ?_
      exact X.imp Imp.ax hJ8
    · refine X.seq ?_
      refine X.region ?_
      iterate 4 refine Ex.pu ?_
      refine Ex.nil ?_
      refine X.cd rfl (fun hc3 => ?_) (fun hc3 => ?_)
      · have hmo : (1 : Int) = rlM m v k := by unfold rlM; rw [if_pos (by simpa using hc2), if_pos hc3]
        refine X.region ?_
        refine Ex.pu ?_
        refine Ex.nil ?_
        exact X.imp Imp.ax hJ8
      · have hmo : (2 : Int) = rlM m v k := by unfold rlM; rw [if_pos (by simpa using hc2), if_neg hc3]
        refine X.skip ?_
        exact X.imp Imp.ax hJ8
  refine X.seq ?_
  refine X.region ?_
  iterate 3 refine Ex.pu ?_
  refine Ex.ca (C_tactusref05_FullV hm (by omega) (by omega) : Fn _ _ [mnA m, iv (k + 1)] _) ?_
  iterate 3 refine Ex.pu ?_
  refine Ex.al ?_
  refine Ex.mo ?_
  refine Ex.pu ?_
  refine Ex.nil ?_
  refine X.seq ?_
  refine X.region ?_
  refine Ex.pu ?_
  refine Ex.nil ?_
  refine X.seq ?_
  refine X.seq ?_
  refine X.region ?_
  refine Ex.pu ?_
  refine Ex.nil ?_
  refine X.block ?_
  have hq0 : [] = rlO (rlL m v q (k + 1)) (lsT m k t) 0 := rfl
  refine X.lp (ι := Nat) (fun (j : Nat) => [(1, iv v), (2, iv k), (4, .ptr 4 0 0 0), (7, .ptr 7 0 0 0), (9, iv (rlM m v k)), (10, .ptr 10 0 0 0), (12, tmsA (rlO (rlL m v q (k + 1)) (lsT m k t) j)), (13, iv (j : Int))]) (fun (j : Nat) => [(4, .box (mnE m) 23), (7, .box (tmE (lsT m k t j)) 51), (10, .box (tmE (fullT m (k + 1))) 51)]) (fun (j : Nat) => j ≤ 3 ∧ ∀ q, q < j → rlG m v k t q = true ∧ rlK m k t q = true) (fun (j : Nat) => 3 - j) 0 (fun j hk => ?_) (hJ := by
    exact ⟨by omega, fun q h => absurd h (Nat.not_lt_zero q)⟩) (h0 := by
    exact Imp.ax)
  obtain ⟨hj3, hJ⟩ := hk
  have hol := rlO_len (g := lsT m k t) (rlL_len m v q (k + 1)) j
  refine X.seq ?_
  refine X.seq ?_
  refine X.region ?_
  iterate 3 refine Ex.pu ?_
  refine ExF.at 3 ?_
  refine ExF.pu ?_
  iterate 3 refine ExF.gi ?_
  refine ExF.done ?_
  refine Ex.pu ?_
  refine Ex.nil ?_
  refine X.cd rfl (fun hc4 => ?_) (fun hc4 => ?_)
  · have hgj : rlG m v k t j = true := by unfold rlG; rw [decide_eq_true hc4.1, decide_eq_true hc4.2]; rfl
    have hj2 : j ≤ 2 := by omega
    refine X.skip ?_
    refine X.seq ?_
    refine X.block ?_
    refine X.seq ?_
    refine X.region ?_
    iterate 5 refine Ex.pu ?_
    refine Ex.ca (ih q (by omega) (k + 1) (lsT m k t j) (by omega) (by omega) (by omega)) ?_
    refine Ex.pu ?_
    refine Ex.nil ?_
    refine X.seq ?_
    refine X.seq ?_
    refine X.region ?_
    refine Ex.pu ?_
    refine Ex.nil ?_
    refine X.block ?_
    obtain ⟨D, hD⟩ : ∃ D, D = rlL m v q (k + 1) (lsT m k t j) := ⟨_, rfl⟩
    have hDl := rlL_len m v q (k + 1) (lsT m k t j)
    have hp4 : 3 ^ q ≤ 3 ^ 3 := Nat.pow_le_pow_right (by decide) (by omega)
    have hp5 : 3 ^ 3 = 27 := rfl
    have hjb : j * 3 ^ q ≤ 3 * 3 ^ q := Nat.mul_le_mul_right _ hj3
    rw [← hD] at hDl
    have hD2 := hD.symm
    have hst0 : rlO (rlL m v q (k + 1)) (lsT m k t) j = (D.take 0).foldl insT (rlO (rlL m v q (k + 1)) (lsT m k t) j) := by rw [List.take_zero]; rfl
    refine X.lp (ι := Nat) (fun (i : Nat) => [(1, iv v), (2, iv k), (4, .ptr 4 0 0 0), (7, .ptr 7 0 0 0), (9, iv (rlM m v k)), (10, .ptr 10 0 0 0), (12, tmsA ((D.take i).foldl insT (rlO (rlL m v q (k + 1)) (lsT m k t) j))), (13, iv (j : Int)), (14, tmsA D), (15, iv (i : Int))]) (fun (i : Nat) => [(4, .box (mnE m) 23), (7, .box (tmE (lsT m k t j)) 51), (10, .box (tmE (fullT m (k + 1))) 51)]) (fun (i : Nat) => i ≤ D.length) (fun (i : Nat) => D.length - i) 0 (fun i hk => ?_) (h0 := by
      exact Imp.ax)
    refine X.seq ?_
    refine X.seq ?_
    refine X.region ?_
    iterate 4 refine Ex.pu ?_
    refine Ex.nil ?_
    refine X.cd rfl (fun hc5 => ?_) (fun hc5 => ?_)
    · obtain ⟨u, hu⟩ : ∃ u, D[i]? = some u := ⟨_, List.getElem?_eq_getElem (by omega)⟩
      have hu2 : D[(i : Int).toNat]? = some u := by simpa using hu
      have hst := fold_step (out := rlO (rlL m v q (k + 1)) (lsT m k t) j) hu
      have hfl := foldI_len (D.take i) (rlO (rlL m v q (k + 1)) (lsT m k t) j)
      have htl : (D.take i).length ≤ D.length := by rw [List.length_take]; omega
      refine X.skip ?_
      refine X.seq ?_
      refine X.block ?_
      refine X.region ?_
      iterate 5 refine Ex.pu ?_
      refine Ex.ca (C_tactusref22_insert ((D.take i).foldl insT (rlO (rlL m v q (k + 1)) (lsT m k t) j)) u (by omega)) ?_
      refine Ex.pu ?_
      refine Ex.nil ?_
      refine X.region ?_
      iterate 3 refine Ex.pu ?_
      refine Ex.nil ?_
      refine X.bk (i + 1) (hI := Imp.ax)
    · have hiD : i = D.length := by omega
      subst hiD
      have hst : (D.take D.length).foldl insT (rlO (rlL m v q (k + 1)) (lsT m k t) j) = rlO (rlL m v q (k + 1)) (lsT m k t) (j + 1) := by rw [List.take_length, hD]; rfl
      refine X.exit ?_
      refine X.seq ?_
      refine X.seq ?_
      refine X.region ?_
      iterate 2 refine Ex.pu ?_
      refine Ex.ca (C_tactusref22_less (fullT m (k + 1)) (lsT m k t j)) ?_
      refine Ex.pu ?_
      refine Ex.nil ?_
      refine X.cd rfl (fun hc6 => ?_) (fun hc6 => ?_)
      · have hkj : rlK m k t j = false := by unfold rlK; rw [decide_eq_false (by omega)]
        have hfin : rlO (rlL m v q (k + 1)) (lsT m k t) (j + 1) = rlL m v (q + 1) k t := by
          conv => rhs; unfold rlL
          rw [rlN_2 j 0 3 rfl (Nat.zero_le _) hJ hgj hkj hj2]
        refine X.exit ?_
        refine X.seq ?_
        refine X.region ?_
        iterate 2 refine Ex.pu ?_
        refine Ex.nil ?_
        refine X.ret ?_
        refine RetQ.ret (.one (.tmp rfl (LeV.eq ?_)))
        all_goals (first | exact congrArg tmsA hfin | exact congrArg tmsA (hst.trans hfin))
      have hkj : rlK m k t j = true := by unfold rlK; rw [decide_eq_true (by omega)]
      refine X.skip ?_
      refine X.region ?_
      iterate 2 refine Ex.pu ?_
      refine Ex.ca (C_tactusref01_Sub (lsT m k t j) (fullT m (k + 1))) ?_
      iterate 3 refine Ex.pu ?_
      refine Ex.mo ?_
      refine Ex.nil ?_
      refine X.region ?_
      iterate 3 refine Ex.pu ?_
      refine Ex.nil ?_
      refine X.bk (j + 1) (hJ := by
        refine ⟨by omega, fun q h => ?_⟩
        rcases Nat.lt_succ_iff_lt_or_eq.1 h with h | h
        · exact hJ q h
        · subst h; exact ⟨hgj, hkj⟩) (hI := Imp.ax)
  · have hgj : rlG m v k t j = false := by
      unfold rlG
      rcases hc4 with h | h
      · rw [decide_eq_false (by omega)]; rfl
      · rw [decide_eq_false (show ¬ 0 < (lsT m k t j).N by omega)]; simp
    have hfin : rlO (rlL m v q (k + 1)) (lsT m k t) j = rlL m v (q + 1) k t := by
      conv => rhs; unfold rlL
      rw [rlN_1 j 0 3 rfl (Nat.zero_le _) hJ hgj hj3]
    refine X.exit ?_
    refine X.seq ?_
    refine X.region ?_
    iterate 2 refine Ex.pu ?_
    refine Ex.nil ?_
    refine X.ret ?_
    refine RetQ.ret (.one (.tmp rfl (LeV.eq ?_)))
    all_goals (first | exact congrArg tmsA hfin | exact congrArg tmsA (hst.trans hfin))
end Go.Rse
