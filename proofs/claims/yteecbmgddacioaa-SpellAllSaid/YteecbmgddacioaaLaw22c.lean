/-
  Walks: the statement on tables of spellings.
-/
import Derived.Test.YteecbmgddacioaaLaw22b
namespace Go.Rse
open Go Go.Proofs Go.RowKit
set_option linter.unusedVariables false
set_option linter.unusedSimpArgs false
attribute [local irreducible] Pur StepA StepM Ex X ExG Fn Imp LeV LeB FnO It YStep
/-- A time made of a number. -/
def spQ (k : Int) : Int := ([1, 1, 1, 2, 2, 3, 4, 6, 8] : List Int).getD (k % 216 % 9).toNat 0
def spN (k : Int) : Tm := ⟨(1 + k % 216 / 9) / gI (1 + k % 216 / 9) (spQ k), spQ k / gI (1 + k % 216 / 9) (spQ k)⟩
theorem spQ_at (k : Int) : ([1, 1, 1, 2, 2, 3, 4, 6, 8] : List Int)[(k % 216 % 9).toNat]? = some (spQ k) ∧ 1 ≤ spQ k ∧ spQ k ≤ 8 := by
  unfold spQ
  have h9 : (k % 216 % 9).toNat = 0 ∨ (k % 216 % 9).toNat = 1 ∨ (k % 216 % 9).toNat = 2 ∨ (k % 216 % 9).toNat = 3 ∨ (k % 216 % 9).toNat = 4 ∨ (k % 216 % 9).toNat = 5 ∨ (k % 216 % 9).toNat = 6 ∨ (k % 216 % 9).toNat = 7 ∨ (k % 216 % 9).toNat = 8 := by omega
  rcases h9 with h | h | h | h | h | h | h | h | h <;> rw [h] <;> decide
theorem spN_all : ((List.range 216).all fun i => decide (ckT (spN (i : Int)) = 0)) = true := by decide +kernel
theorem spN_ck (k : Int) : ckT (spN k) = 0 := by
  have h := List.all_eq_true.1 spN_all (k % 216).toNat (List.mem_range.2 (by omega))
  rw [show (((k % 216).toNat : Nat) : Int) = k % 216 by omega] at h
  have e : spN (k % 216) = spN k := by unfold spN spQ; rw [Int.emod_emod_of_dvd k (Int.dvd_refl 216)]
  rw [e] at h
  exact of_decide_eq_true h
theorem srtT_len {l : List Tm} : (srtT l).length ≤ l.length := by
  have := cpK_len (msT l) (msT l).length
  rw [msT_len] at this
  unfold srtT cpT
  rw [msT_len]
  exact this
theorem durV_law {m : Mn} {v y : Int} (hm : ckM m = 0) (h1 : 1 ≤ v) (h8 : v ≤ 8) (y1 : 1 ≤ y) (y8 : y ≤ 8) : durE m (spOf v y) = 0 ∧ (durV m (spOf v y)).length ≤ 81 ∧ (∀ x, x ∈ durV m (spOf v y) ↔ x ∈ wdL m v y.toNat) ∧ (durV m (spOf v y)).Pairwise ltT := by
  have hc : chS (spOf v y) = 0 := by
    have e : spOf v y = spOf (spOf v y).Value (spOf v y).Way := rfl
    unfold chS
    rw [if_pos ⟨h1, h8⟩, if_pos ⟨⟨y1, y8⟩, e⟩]
  have hE : durE m (spOf v y) = 0 := by unfold durE; rw [if_pos hm, hc]
  have hV : durV m (spOf v y) = srtT (wdL m v y.toNat) := by unfold durV; rw [if_pos hE]; rfl
  have hl := srtT_law (l := wdL m v y.toNat) (wdL_ck hm h1 h8 y.toNat (by omega))
  have hn := wdL_len m h1 y.toNat
  rw [hV]
  exact ⟨hE, Nat.le_trans srtT_len hn, hl.1, hl.2⟩
theorem tiI_mem {m : Mn} {v : Int} {x : Tm} : ∀ n, x ∈ tiI m v n ↔ ∃ i, i < n ∧ x ∈ wdL m v i
  | 0 => by simp [tiI]
  | n + 1 => by
    unfold tiI
    rw [List.mem_append, tiI_mem n]
    constructor
    · rintro (⟨i, h, h2⟩ | h)
      · exact ⟨i, by omega, h2⟩
      · exact ⟨n, by omega, h⟩
    · rintro ⟨i, h, h2⟩
      rcases Nat.lt_succ_iff_lt_or_eq.1 h with h | h
      · exact .inl ⟨i, h, h2⟩
      · exact .inr (h ▸ h2)
theorem tiO_mem {m : Mn} {x : Tm} : ∀ k, x ∈ tiO m k ↔ ∃ j, j < k ∧ x ∈ tiI m (1 + (j : Int)) 9
  | 0 => by simp [tiO]
  | k + 1 => by
    unfold tiO
    rw [List.mem_append, tiO_mem k]
    constructor
    · rintro (⟨i, h, h2⟩ | h)
      · exact ⟨i, by omega, h2⟩
      · exact ⟨k, by omega, h⟩
    · rintro ⟨i, h, h2⟩
      rcases Nat.lt_succ_iff_lt_or_eq.1 h with h | h
      · exact .inl ⟨i, h, h2⟩
      · exact .inr (h ▸ h2)
theorem wdL_0 (m : Mn) (v : Int) : wdL m v 0 = [] := by simp [wdL]
theorem alI_ne {m : Mn} {v : Int} {t : Tm} : ∀ n, alI m t v n ≠ [] ↔ ∃ i, i < n ∧ t ∈ wdL m v i
  | 0 => by simp [alI]
  | n + 1 => by
    have ih := alI_ne (m := m) (v := v) (t := t) n
    have hs : (∃ i, i < n + 1 ∧ t ∈ wdL m v i) ↔ (∃ i, i < n ∧ t ∈ wdL m v i) ∨ t ∈ wdL m v n :=
      ⟨fun ⟨i, h, h2⟩ => (Nat.lt_succ_iff_lt_or_eq.1 h).elim (fun h => .inl ⟨i, h, h2⟩) (fun h => .inr (h ▸ h2)), fun h => h.elim (fun ⟨i, h, h2⟩ => ⟨i, by omega, h2⟩) (fun h => ⟨n, by omega, h⟩)⟩
    rw [hs]
    unfold alI
    by_cases h : n ≠ 0 ∧ t ∈ wdL m v n
    · rw [if_pos h]; simp [h.2]
    · rw [if_neg h, ih]
      refine ⟨.inl, fun h2 => h2.elim id fun h3 => absurd ⟨fun e => ?_, h3⟩ h⟩
      subst e; rw [wdL_0] at h3; simp at h3
theorem alO_ne {m : Mn} {t : Tm} : ∀ k, alO m t k ≠ [] ↔ t ∈ tiO m k
  | 0 => by simp [alO, tiO]
  | k + 1 => by
    have ih := alO_ne (m := m) (t := t) k
    have h2 := alI_ne (m := m) (v := 1 + (k : Int)) (t := t) 9
    unfold alO tiO
    rw [List.mem_append, ← ih, tiI_mem, ← h2]
    by_cases h : alO m t k = [] <;> simp [h]
theorem tab_law {m : Mn} (hm : ckM m = 0) : timV m = srtT (tiO m 8) ∧ (∀ x, x ∈ timV m ↔ x ∈ tiO m 8) ∧ (∀ x ∈ timV m, ckT x = 0) ∧ 1 ≤ (timV m).length ∧ (timV m).length ≤ 6000 := by
  have e : timV m = srtT (tiO m 8) := by unfold timV; rw [if_pos hm]
  have hl := srtT_law (l := tiO m 8) (tiO_ck hm 8 (by omega))
  have hn := tiO_len m 8
  have h2 := srtT_len (l := tiO m 8)
  rw [e]
  refine ⟨rfl, hl.1, fun x hx => tiO_ck hm 8 (by omega) x ((hl.1 x).1 hx), ?_, by omega⟩
  have hx : fullT m 1 ∈ tiO m 8 := (tiO_mem 8).2 ⟨0, by omega, (tiI_mem 9).2 ⟨1, by omega, by simp [wdL]⟩⟩
  have := List.length_pos_of_mem ((hl.1 _).2 hx)
  omega
theorem take_mem {L : List Tm} {q : Nat} {u t : Tm} (h : L[q]? = some u) : (decide (t ∈ L.take q) || decide (u = t)) = decide (t ∈ L.take (q + 1)) := by
  rw [List.take_add_one, h, ← Bool.decide_or]
  simp only [Option.toList_some, List.mem_append, List.mem_singleton]
  congr 1
  exact propext ⟨fun h => h.imp id Eq.symm, fun h => h.imp id Eq.symm⟩
/-- What has been seen among the first ones. -/
def seenT (X : List Sp) (s : Sp) (t : Tm) (L : List Tm) (q : Nat) : List Sp := if t ∈ L.take q then X ++ [s] else X
theorem seen_0 (X : List Sp) (s : Sp) (t : Tm) (L : List Tm) : X = seenT X s t L 0 := by simp [seenT]
theorem seen_yes {X : List Sp} {s : Sp} {t : Tm} {L : List Tm} {q : Nat} {u : Tm} (h : L[q]? = some u) (e : u = t) (hp : L.Pairwise ltT) : seenT X s t L q ++ [s] = seenT X s t L (q + 1) := by
  subst e
  have hn : ¬ u ∈ L.take q := fun hm => by
    obtain ⟨i, hi⟩ := List.mem_iff_getElem?.1 hm
    rw [List.getElem?_take] at hi
    split at hi
    · rename_i hiq
      have h1 := List.getElem?_eq_some_iff.1 hi
      have h2 := List.getElem?_eq_some_iff.1 h
      have := List.pairwise_iff_getElem.1 hp i q h1.1 h2.1 hiq
      rw [h1.2, h2.2] at this
      exact ltT_irr _ this
    · simp at hi
  unfold seenT
  rw [if_neg hn, if_pos (by rw [List.take_add_one, h]; simp)]
theorem seen_no {X : List Sp} {s : Sp} {t : Tm} {L : List Tm} {q : Nat} {u : Tm} (h : L[q]? = some u) (e : ¬ u = t) : seenT X s t L q = seenT X s t L (q + 1) := by
  unfold seenT
  have : t ∈ L.take (q + 1) ↔ t ∈ L.take q := by
    rw [List.take_add_one, h]
    simp only [Option.toList_some, List.mem_append, List.mem_singleton]
    exact ⟨fun h => h.elim id fun h => absurd h.symm e, .inl⟩
  by_cases h2 : t ∈ L.take q
  · rw [if_pos h2, if_pos (this.2 h2)]
  · rw [if_neg h2, if_neg (fun h => h2 (this.1 h))]
theorem seen_len (X : List Sp) (s : Sp) (t : Tm) (L : List Tm) (q : Nat) : (seenT X s t L q).length ≤ X.length + 1 := by
  unfold seenT; split <;> simp
theorem seen_end {m : Mn} {v : Int} {t : Tm} {i : Nat} {L : List Tm} (hL : ∀ x, x ∈ L ↔ x ∈ wdL m v (1 + (i : Int)).toNat) (X : List Sp) : seenT (X ++ alI m t v (1 + i)) (spOf v (1 + (i : Int))) t L L.length = X ++ alI m t v (1 + (i + 1)) := by
  rw [show (1 + (i : Int)).toNat = 1 + i by omega] at hL
  unfold seenT
  rw [List.take_length]
  by_cases h : t ∈ L
  · rw [if_pos h, List.append_assoc]
    have := alI_yes (m := m) (t := t) (v := v) (n := 1 + i) (by omega) ((hL t).1 h) X
    rw [List.append_assoc] at this
    rw [show ((1 + i : Nat) : Int) = 1 + (i : Int) by omega] at this
    exact this
  · rw [if_neg h]
    exact alI_no (m := m) (t := t) (v := v) (n := 1 + i) (.inr fun h2 => h ((hL t).2 h2)) X
attribute [local irreducible] fullT durT mulV wdL srtT msT cpT tiI tiO timV durV durE allE bthE alO alI mMk gI seenT spQ
theorem C_tactuskit_Span (n : Int) (hn : -9223372036854775808 ≤ n ∧ n ≤ 9223372036854775807) : Fn Try.prog 101 [iv n] (tmA (spN n)) := by
  obtain ⟨hq, q1, q8⟩ := spQ_at n
  refine Fn.go Try.func101 Try.ntmps101 (fun g w d => ?_)
  refine X.seq ?_
  refine X.region ?_
  refine Ex.al ?_
  refine Ex.nil ?_
  refine X.seq ?_
  refine X.region ?_
  refine Ex.bs intE [1, 1, 1, 2, 2, 3, 4, 6, 8] ?_
  refine Ex.pu ?_
  refine Ex.nil ?_
  refine X.seq ?_
  refine X.region ?_
  refine Ex.pu ?_
  refine Ex.ca (C_tactuskit_Mod n 216 hn (by omega)) ?_
  refine Ex.pu ?_
  refine Ex.nil ?_
  refine X.seq ?_
  refine X.region ?_
  iterate 6 refine Ex.pu ?_
  refine Ex.imp (Imp.freeze (k := 5) rfl) ?_
  iterate 2 refine Ex.pu ?_
  refine Ex.ca (C_tactuskit_T (1 + n % 216 / 9) (spQ n) (by omega) (by omega)) ?_
  refine Ex.mo ?_
  refine Ex.nil ?_
  refine X.ret ?_
  refine RetQ.ret (.one (.cellA rfl rfl rfl rfl ty26 (LeV.eq ?_)))
  all_goals (rfl)
set_option maxHeartbeats 4000000 in
theorem C_tactuslaw22_SpellTables (n y : Int) (hn : -9223372036854775808 ≤ n ∧ n ≤ 9223372036854775807) (hy : -9223372036854775808 ≤ y ∧ y ≤ 9223372036854775807) : Fn Try.prog 20 [iv n, iv y] (.bool true) := by
  have hck := mMk_ck n
  have hM := C_tactuskit_Mens n hn
  generalize mMk n = m at hM hck
  have hTm := C_spell_Times m
  rw [hck] at hTm
  obtain ⟨-, hLm, hLck, hL1, hL6⟩ := tab_law hck
  generalize timV m = L at hTm hLm hLck hL1 hL6
  have htd : -9223372036854775808 ≤ y.tdiv 2 ∧ y.tdiv 2 ≤ 9223372036854775807 := by
    have e := Int.tdiv_eq_ediv (a := y) (b := 2)
    rw [show Int.sign 2 = 1 from rfl] at e
    split at e <;> omega
  have hmd : 0 ≤ y.tdiv 2 % (L.length : Int) ∧ y.tdiv 2 % (L.length : Int) < (L.length : Int) := ⟨Int.emod_nonneg _ (by omega), Int.emod_lt_of_pos _ (by omega)⟩
  obtain ⟨t0, ht0⟩ : ∃ t0, L[(y.tdiv 2 % (L.length : Int)).toNat]? = some t0 := ⟨_, List.getElem?_eq_getElem (by omega)⟩
  obtain ⟨t, ht⟩ : ∃ t, t = if y.tmod 2 = 0 then t0 else spN y := ⟨_, rfl⟩
  have htc : ckT t = 0 := by rw [ht]; split; exact hLck _ (List.mem_of_getElem? ht0); exact spN_ck y
  have hA := C_spell_All m t
  have hb0 : bthE m t = 0 := by unfold bthE; rw [if_pos hck, htc]
  rw [hb0, show allE m t = alO m t 8 by unfold allE; rw [if_pos hb0]] at hA
  have hal := alO_len m t 8
  have hlist : decide (t ∈ L) = decide ((0 : Int) < ((alO m t 8).length : Int)) := by
    apply decide_eq_decide.2
    rw [hLm t, ← alO_ne 8, ← List.length_pos_iff]
    omega
  have hl0 : decide (t ∈ L.take 0) = false := by simp
  refine Fn.go Try.func20 Try.ntmps20 (fun g w d => ?_)
  refine X.seq ?_
  refine X.region ?_
  refine Ex.pu ?_
  refine Ex.nil ?_
  refine X.seq ?_
  refine X.region ?_
  refine Ex.pu ?_
  refine Ex.ca hM ?_
  refine Ex.al ?_
  refine Ex.mo ?_
  refine Ex.nil ?_
  refine X.seq ?_
  refine X.region ?_
  refine Ex.pu ?_
  refine Ex.ca hTm ?_
  iterate 5 refine Ex.pu ?_
  refine Ex.nil ?_
  refine X.seq ?_
  refine X.seq ?_
  refine X.region ?_
  iterate 3 refine Ex.pu ?_
  refine Ex.unguard rfl rfl rfl ?_
  refine Ex.pu ?_
  refine Ex.unguard rfl rfl rfl ?_
  refine Ex.pu ?_
  refine Ex.unguard rfl rfl rfl ?_
  iterate 2 refine Ex.pu ?_
  refine Ex.nil ?_
  refine X.cd rfl (fun hc1 => ?_) (fun hc1 => ?_)
  · (first | omega | (simp at hc1; omega))
  refine X.skip ?_
  refine X.seq ?_
  refine X.region ?_
  iterate 5 refine Ex.pu ?_
  refine Ex.ca (C_tactuskit_Mod (y.tdiv 2) L.length htd (by omega)) ?_
  iterate 2 refine Ex.pu ?_
  refine Ex.al ?_
  refine Ex.mo ?_
  refine Ex.nil ?_
  refine X.seqJ ⟨[(5, .ptr 5 0 0 0), (6, tmsA L), (8, .ptr 8 0 0 0)], [(5, .box (mnE m) 23), (8, .box (tmE t) 26)]⟩ (fun hJ8 => ?_) ?_
  · refine X.seq ?_
    refine X.region ?_
    iterate 3 refine Ex.pu ?_
    refine Ex.nil ?_
    refine X.cd rfl (fun hc2 => ?_) (fun hc2 => ?_)
    · have htq : tmE (spN y) = tmE t := by rw [ht, if_neg hc2]
      refine X.region ?_
      refine Ex.pu ?_
      refine Ex.ca (C_tactuskit_Span y hy) ?_
      refine Ex.mo ?_
      refine Ex.nil ?_
      exact X.imp Imp.ax hJ8
    · have htq : tmE t0 = tmE t := by rw [ht, if_pos (by simpa using hc2)]
      refine X.skip ?_
      exact X.imp Imp.ax hJ8
  refine X.seq ?_
  refine X.region ?_
  iterate 2 refine Ex.pu ?_
  refine Ex.ca hA ?_
  iterate 5 refine Ex.pu ?_
  refine Ex.nil ?_
  refine X.seq ?_
  refine X.region ?_
  refine Ex.pu ?_
  refine Ex.nil ?_
  refine X.seq ?_
  refine X.seq ?_
  refine X.region ?_
  refine Ex.pu ?_
  refine Ex.nil ?_
  refine X.block ?_
  refine X.lp (ι := Nat) (fun (q : Nat) => [(5, .ptr 5 0 0 0), (6, tmsA L), (7, iv 0), (8, .ptr 8 0 0 0), (9, spsA (alO m t 8)), (10, .bool (decide (t ∈ L.take q))), (11, iv (q : Int))]) (fun (q : Nat) => [(5, .box (mnE m) 23), (8, .box (tmE t) 26)]) (fun (q : Nat) => q ≤ L.length) (fun (q : Nat) => L.length - q) 0 (fun q hk => ?_) (h0 := by
    exact Imp.ax)
  refine X.seq ?_
  refine X.seq ?_
  refine X.region ?_
  iterate 4 refine Ex.pu ?_
  refine Ex.nil ?_
  refine X.cd rfl (fun hc3 => ?_) (fun hc3 => ?_)
  · obtain ⟨u, hu⟩ : ∃ u, L[q]? = some u := ⟨_, List.getElem?_eq_getElem (by omega)⟩
    have hu2 : L[(q : Int).toNat]? = some u := by simpa using hu
    have hst := take_mem (t := t) hu
    refine X.skip ?_
    refine X.seq ?_
    refine X.block ?_
    refine X.dw [57,58,59,60,61,62,63,64] [0,1,3,3,15,31,3,127,255,511] mo ?_
    iterate 2 refine ChM.pu ?_
    iterate 6 refine ChM.gi ?_
    refine ChM.tl ?_
    iterate 2 refine Ex.pu ?_
    refine Ex.nil ?_
    refine X.region ?_
    iterate 3 refine Ex.pu ?_
    refine Ex.nil ?_
    refine X.bk (q + 1) (hI := Imp.ax)
  · have hq9 : q = L.length := by omega
    subst hq9
    have htl : L.take L.length = L := List.take_length
    refine X.exit ?_
    refine X.seq ?_
    refine X.seq ?_
    refine X.region ?_
    iterate 3 refine Ex.pu ?_
    refine Ex.unguard rfl rfl rfl ?_
    refine Ex.pu ?_
    refine Ex.unguard rfl rfl rfl ?_
    refine Ex.pu ?_
    refine Ex.unguard rfl rfl rfl ?_
    refine Ex.pu ?_
    refine Ex.unguard rfl rfl rfl ?_
    refine Ex.pu ?_
    refine Ex.unguard rfl rfl rfl ?_
    iterate 2 refine Ex.pu ?_
    refine Ex.nil ?_
    refine X.cd rfl (fun hc4 => ?_) (fun hc4 => ?_)
    · (rw [htl, hlist] at hc4; simp at hc4)
    refine X.skip ?_
    refine X.seq ?_
    refine X.region ?_
    refine Ex.pu ?_
    refine Ex.nil ?_
    refine X.seq ?_
    refine X.seq ?_
    refine X.imp (Imp.mkrow spE 100 5 12 12 rfl rfl) ?_
    refine X.region ?_
    refine Ex.pu ?_
    refine Ex.nil ?_
    refine X.block ?_
    have hq0 : [] = alO m t 0 := by unfold alO; rfl
    refine X.lp (ι := Nat) (fun (j : Nat) => [(5, .ptr 5 0 0 0), (8, .ptr 8 0 0 0), (9, spsA (alO m t 8)), (12, .own 12), (13, iv (1 + (j : Int)))]) (fun (j : Nat) => [(5, .box (mnE m) 23), (8, .box (tmE t) 26), (12, .row spE (alO m t j) 100 5)]) (fun (j : Nat) => j ≤ 8) (fun (j : Nat) => 8 - j) 0 (fun j hk => ?_) (h0 := by
      exact Imp.ax)
    refine X.seq ?_
    refine X.seq ?_
    refine X.region ?_
    iterate 2 refine Ex.pu ?_
    refine Ex.nil ?_
    refine X.cd rfl (fun hc5 => ?_) (fun hc5 => ?_)
    · refine X.skip ?_
      refine X.seq ?_
      refine X.block ?_
      refine X.seq ?_
      refine X.region ?_
      refine Ex.pu ?_
      refine Ex.nil ?_
      refine X.block ?_
      have hq1 : alO m t j = alO m t j ++ alI m t (1 + (j : Int)) (1 + 0) := by unfold alI; simp [alI]
      have hol := alO_len m t j
      refine X.lp (ι := Nat) (fun (i : Nat) => [(5, .ptr 5 0 0 0), (8, .ptr 8 0 0 0), (9, spsA (alO m t 8)), (12, .own 12), (13, iv (1 + (j : Int))), (14, iv (1 + (i : Int)))]) (fun (i : Nat) => [(5, .box (mnE m) 23), (8, .box (tmE t) 26), (12, .row spE (alO m t j ++ alI m t (1 + (j : Int)) (1 + i)) 100 5)]) (fun (i : Nat) => i ≤ 8) (fun (i : Nat) => 8 - i) 0 (fun i hk => ?_) (h0 := by
        exact Imp.ax)
      refine X.seq ?_
      refine X.seq ?_
      refine X.region ?_
      iterate 2 refine Ex.pu ?_
      refine Ex.nil ?_
      refine X.cd rfl (fun hc6 => ?_) (fun hc6 => ?_)
      · obtain ⟨hdE, hdl, hdm, hdp⟩ := durV_law (v := 1 + (j : Int)) (y := 1 + (i : Int)) hck (by omega) (by omega) (by omega) (by omega)
        have hD := C_spell_Durations m (spOf (1 + (j : Int)) (1 + (i : Int)))
        rw [hdE] at hD
        generalize durV m (spOf (1 + (j : Int)) (1 + (i : Int))) = D at hD hdl hdm hdp
        refine X.skip ?_
        refine X.seq ?_
        refine X.block ?_
        refine X.seq ?_
        refine X.dw [15,16,83,84,85,86,87,88,89,90] [0,0,0,6,15,31,63,63,127,511] mo ?_
        iterate 3 refine ChM.pu ?_
        refine ChM.ca (C_tactuslaw22_of (1 + (j : Int)) (1 + (i : Int))) ?_
        refine ChM.ca hD ?_
        iterate 5 refine ChM.pu ?_
        refine ChM.tl ?_
        refine Ex.nil ?_
        refine X.seq ?_
        refine X.seq ?_
        refine X.region ?_
        iterate 2 refine Ex.pu ?_
        refine Ex.nil ?_
        refine X.cd rfl (fun hc7 => ?_) (fun hc7 => ?_)
        · exact absurd rfl hc7
        refine X.skip ?_
        refine X.seq ?_
        refine X.region ?_
        refine Ex.pu ?_
        refine Ex.nil ?_
        refine X.block ?_
        have hq2 := seen_0 (alO m t j ++ alI m t (1 + (j : Int)) (1 + i)) (spOf (1 + (j : Int)) (1 + (i : Int))) t D
        have hil := alI_len m t (1 + (j : Int)) (1 + i)
        refine X.lp (ι := Nat) (fun (q : Nat) => [(5, .ptr 5 0 0 0), (8, .ptr 8 0 0 0), (9, spsA (alO m t 8)), (12, .own 12), (13, iv (1 + (j : Int))), (14, iv (1 + (i : Int))), (15, tmsA D), (17, iv (q : Int))]) (fun (q : Nat) => [(5, .box (mnE m) 23), (8, .box (tmE t) 26), (12, .row spE (seenT (alO m t j ++ alI m t (1 + (j : Int)) (1 + i)) (spOf (1 + (j : Int)) (1 + (i : Int))) t D q) 100 5)]) (fun (q : Nat) => q ≤ D.length) (fun (q : Nat) => D.length - q) 0 (fun q hk => ?_) (h0 := by
          exact Imp.ax)
        refine X.seq ?_
        refine X.seq ?_
        refine X.region ?_
        iterate 4 refine Ex.pu ?_
        refine Ex.nil ?_
        refine X.cd rfl (fun hc8 => ?_) (fun hc8 => ?_)
        · obtain ⟨u, hu⟩ : ∃ u, D[q]? = some u := ⟨_, List.getElem?_eq_getElem (by omega)⟩
          have hu2 : D[(q : Int).toNat]? = some u := by simpa using hu
          have hsl := seen_len (alO m t j ++ alI m t (1 + (j : Int)) (1 + i)) (spOf (1 + (j : Int)) (1 + (i : Int))) t D q
          rw [List.length_append] at hsl
          refine X.skip ?_
          refine X.seq ?_
          refine X.block ?_
          refine X.seq ?_
          refine X.dw [99,100,101,102,103,104] [0,0,3,7,0,31] mo ?_
          iterate 6 refine ChM.pu ?_
          refine ChM.tl ?_
          refine Ex.nil ?_
          refine X.cd rfl (fun hc9 => ?_) (fun hc9 => ?_)
          · have hst := seen_yes (X := alO m t j ++ alI m t (1 + (j : Int)) (1 + i)) (s := spOf (1 + (j : Int)) (1 + (i : Int))) hu hc9 hdp
            refine X.region ?_
            iterate 3 refine Ex.pu ?_
            refine Ex.ca (C_tactuslaw22_of (1 + (j : Int)) (1 + (i : Int))) ?_
            refine Ex.bs spE [spOf (1 + (j : Int)) (1 + (i : Int))] ?_
            refine Ex.mo ?_
            refine Ex.pu ?_
            refine Ex.nil ?_
            refine X.region ?_
            iterate 3 refine Ex.pu ?_
            refine Ex.nil ?_
            refine X.bk (q + 1) (hI := Imp.ax)
          · have hst := seen_no (X := alO m t j ++ alI m t (1 + (j : Int)) (1 + i)) (s := spOf (1 + (j : Int)) (1 + (i : Int))) hu hc9
            refine X.skip ?_
            refine X.region ?_
            iterate 3 refine Ex.pu ?_
            refine Ex.nil ?_
            refine X.bk (q + 1) (hI := Imp.ax)
        · have hqD : q = D.length := by omega
          subst hqD
          have hst := seen_end (t := t) hdm (alO m t j)
          refine X.exit ?_
          refine X.region ?_
          iterate 3 refine Ex.pu ?_
          refine Ex.nil ?_
          refine X.bk (i + 1) (hI := Imp.ax)
      · have hi8 : i = 8 := by omega
        subst hi8
        have hst : alO m t j ++ alI m t (1 + (j : Int)) (1 + 8) = alO m t (j + 1) := by conv => rhs; unfold alO
        refine X.exit ?_
        refine X.region ?_
        iterate 3 refine Ex.pu ?_
        refine Ex.nil ?_
        refine X.bk (j + 1) (hI := Imp.ax)
    · have hj8 : j = 8 := by omega
      subst hj8
      refine X.exit ?_
      refine X.seq ?_
      refine X.imp (Imp.freeze (k := 12) rfl) ?_
      refine X.region ?_
      iterate 2 refine Ex.pu ?_
      refine Ex.ca (C_sps_eq (alO m t 8) (by omega)) ?_
      refine Ex.pu ?_
      refine Ex.unguard rfl rfl rfl ?_
      refine Ex.ca C_tactuslaw22_awake ?_
      iterate 2 refine Ex.pu ?_
      refine Ex.nil ?_
      refine X.ret ?_
      refine RetQ.ret (.one (.tmp rfl (LeV.eq ?_)))
      all_goals (first | rfl | simp)
end Go.Rse
