/-
  Walks: what a value can lose; the ways.
-/
import Derived.Test.YteecbmgddacioaaGreatSpell1
import Derived.Test.YteecbmgddacioaaGreatRse31
namespace Go.Rse
open Go Go.Proofs
set_option linter.unusedVariables false
set_option linter.unusedSimpArgs false
attribute [local irreducible] Pur StepA StepM Ex X ExG Fn Imp LeV LeB FnO It YStep
/-- What can be left, with losses at the levels from k on. -/
def lsL (m : Mn) (v : Int) : Nat → Int → Tm → Bool → List Tm
  | 0, k, t, b => if b = true ∧ 0 < t.N then [t] else []
  | n + 1, k, t, b => lsL m v n (k + 1) t b ++ (if m.p k = 3 then
      (if subE t (fullT m (k + 1)) = 0 then lsL m v n (k + 1) (subV t (fullT m (k + 1))) true ++
        (if v < k ∧ subE (subV t (fullT m (k + 1))) (fullT m (k + 1)) = 0 then lsL m v n (k + 1) (subV (subV t (fullT m (k + 1))) (fullT m (k + 1))) true else []) else []) else [])
def lsT (m : Mn) (k : Int) (t : Tm) : Nat → Tm
  | 0 => t
  | j + 1 => subV (lsT m k t j) (fullT m (k + 1))
def lsR (m : Mn) (v : Int) (n : Nat) (k : Int) (t : Tm) (b : Bool) (L : List Tm) : Nat → List Tm
  | 0 => L ++ lsL m v n (k + 1) t b
  | j + 1 => lsR m v n k t b L j ++ lsL m v n (k + 1) (lsT m k t (j + 1)) true
theorem lsL_len (m : Mn) (v : Int) : ∀ (n : Nat) (k : Int) (t : Tm) (b : Bool), (lsL m v n k t b).length ≤ 3 ^ n
  | 0, k, t, b => by unfold lsL; split <;> simp
  | n + 1, k, t, b => by
    have h0 := lsL_len m v n (k + 1) t b
    have h1 := lsL_len m v n (k + 1) (subV t (fullT m (k + 1))) true
    have h2 := lsL_len m v n (k + 1) (subV (subV t (fullT m (k + 1))) (fullT m (k + 1))) true
    have h3 : 3 ^ (n + 1) = 3 ^ n * 3 := Nat.pow_succ ..
    unfold lsL
    simp only [List.length_append]
    split
    · split
      · simp only [List.length_append]
        split
        · omega
        · simp; omega
      · simp; omega
    · simp; omega
theorem lsR_len (m : Mn) (v : Int) (n : Nat) (k : Int) (t : Tm) (b : Bool) (L : List Tm) : ∀ j, (lsR m v n k t b L j).length ≤ L.length + (j + 1) * 3 ^ n
  | 0 => by have := lsL_len m v n (k + 1) t b; unfold lsR; simp; omega
  | j + 1 => by
    have h1 := lsR_len m v n k t b L j
    have h2 := lsL_len m v n (k + 1) (lsT m k t (j + 1)) true
    have h3 : (j + 1 + 1) * 3 ^ n = (j + 1) * 3 ^ n + 3 ^ n := Nat.succ_mul ..
    unfold lsR; simp only [List.length_append]; omega
theorem lsL_no {m : Mn} {v : Int} {n : Nat} {k : Int} {t : Tm} {b : Bool} {L : List Tm} (hp : ¬ m.p k = 3) : lsR m v n k t b L 0 = L ++ lsL m v (n + 1) k t b := by
  simp only [lsR, lsL, if_neg hp, List.append_nil]
theorem lsL_0 {m : Mn} {v : Int} {n : Nat} {k : Int} {t : Tm} {b : Bool} {L : List Tm} (hp : m.p k = 3) (h : ¬ subE (lsT m k t 0) (fullT m (k + 1)) = 0) : lsR m v n k t b L 0 = L ++ lsL m v (n + 1) k t b := by
  simp only [lsT] at h
  simp only [lsR, lsL, if_pos hp, if_neg h, List.append_nil]
theorem lsL_1 {m : Mn} {v : Int} {n : Nat} {k : Int} {t : Tm} {b : Bool} {L : List Tm} (hp : m.p k = 3) (h0 : subE (lsT m k t 0) (fullT m (k + 1)) = 0) (h : ¬ v < k ∨ ¬ subE (lsT m k t 1) (fullT m (k + 1)) = 0) : lsR m v n k t b L 1 = L ++ lsL m v (n + 1) k t b := by
  simp only [lsT] at h h0
  simp only [lsR, lsL, lsT, if_pos hp, if_pos h0]
  rw [if_neg (fun e => by rcases h with h | h; exact h e.1; exact h e.2)]
  simp
theorem lsL_2 {m : Mn} {v : Int} {n : Nat} {k : Int} {t : Tm} {b : Bool} {L : List Tm} (hp : m.p k = 3) (h0 : subE (lsT m k t 0) (fullT m (k + 1)) = 0) (h : v < k) (h1 : subE (lsT m k t 1) (fullT m (k + 1)) = 0) : lsR m v n k t b L 2 = L ++ lsL m v (n + 1) k t b := by
  simp only [lsT] at h1 h0
  simp only [lsR, lsL, lsT, if_pos hp, if_pos h0, if_pos (show v < k ∧ _ from ⟨h, h1⟩)]
  simp
/-- The durations that a way gives a value. -/
def wdL (m : Mn) (v : Int) (n : Nat) : List Tm :=
  if n = 1 ∨ n = 8 then [fullT m v]
  else if n = 2 then (if m.p v = 3 then [] else [mulV (fullT m v) ⟨3, 2⟩])
  else if n = 3 then lsL m v (5 - v).toNat v (fullT m v) false
  else if n = 4 then (if v = 1 ∨ ¬ m.p (v - 1) = 3 then [] else [mulV (fullT m v) ⟨2, 1⟩])
  else if n = 5 then [durT m v]
  else if n = 6 then [mulV (durT m v) ⟨3, 2⟩]
  else if n = 7 then (if m.Pro = 2 ∧ v = 4 then [⟨3, 2⟩] else if m.Pro = 2 ∧ v = 5 then [⟨1, 2⟩] else [])
  else []
def waysA : List AV := [.bool false, .bool false, .bool false, .nilf, .bool false, .bool false, .bool false, .fn 41 [], .bool false, .bool false, .bool true, .fn 42 [], .bool false, .bool false, .bool false, .fn 45 [], .bool false, .bool false, .bool false, .fn 46 [],
  .bool false, .bool true, .bool false, .fn 47 [], .bool false, .bool true, .bool true, .fn 49 [], .bool false, .bool true, .bool false, .fn 50 [], .bool true, .bool false, .bool false, .fn 51 []]
attribute [local irreducible] fullT durT mulV mulE subV subE
theorem RetQX.imp {P : Program} {C : Ctx} {rv : List ResultVar} {r : AV} {vs : List Value} {cs : List AV} {hs' : List (Nat × Blk)} {e : Exit} {st st' : St} (hi : Imp C st st') (h : RetQX P C rv r vs cs hs' e st') : RetQX P C rv r vs cs hs' e st := by
  obtain ⟨h1, ts, ex, h2, h3⟩ := h
  exact ⟨h1, ts, ex, hi.trans h2, h3⟩
set_option maxHeartbeats 4000000 in
theorem C_spell_lost_1 (m : Mn) (hm : ckM m = 0) (v : Int) (n : Nat) (k : Int) (t : Tm) (b : Bool) (L : List Tm) (hn : (5 - k).toNat = n) (h1 : 1 ≤ k) (h8 : k ≤ 8) (hL : L.length + 3 ^ n ≤ 1000) : FnO Tryz.prog 70 [iv k, tmA t, .bool b, .ptr 2000000 0 0 0, .ptr 2000001 0 0 0, .ptr 2000002 0 0 0, .ptr 2000003 0 0 0] [(2000000, .box [.own 2000010] 26), (2000001, .box [.fn 70 [.ptr 2000000 0 0 0, .ptr 2000001 0 0 0, .ptr 2000002 0 0 0, .ptr 2000003 0 0 0]] 100), (2000002, .box (mnE m) 23), (2000003, .box [iv v] 3), (2000010, .row tmE (L) 51 2)] [2000000, 2000001, 2000002, 2000003] (.tup []) [(2000000, .box [.own 2000011] 26), (2000001, .box [.fn 70 [.ptr 2000000 0 0 0, .ptr 2000001 0 0 0, .ptr 2000002 0 0 0, .ptr 2000003 0 0 0]] 100), (2000002, .box (mnE m) 23), (2000003, .box [iv v] 3), (2000011, .row tmE (L ++ lsL m v n k t b) 51 2)] := by
  induction n using Nat.strongRecOn generalizing k t b L
  rename_i n ih
  refine FnO.introX (ts := [(0, iv k), (1, tmA t), (2, .bool b), (3, .ptr 2000000 0 0 0), (4, .ptr 2000001 0 0 0), (5, .ptr 2000002 0 0 0), (6, .ptr 2000003 0 0 0)]) (rv := []) (n := 67) (cs := [.ptr 2000000 0 0 0, .ptr 2000001 0 0 0, .ptr 2000002 0 0 0, .ptr 2000003 0 0 0]) (by kernel_rfl) Tryz.func70 rfl Tryz.ntmps70 rfl rfl (by simp) rfl rfl rfl rfl (fun g w d vs => ?_)
  refine X.seq ?_
  refine X.region ?_
  refine Ex.ba ?_
  refine Ex.nil ?_
  refine X.seq ?_
  refine X.seq ?_
  refine X.region ?_
  iterate 2 refine Ex.pu ?_
  refine Ex.nil ?_
  refine X.cd rfl (fun hc1 => ?_) (fun hc1 => ?_)
  · have hn0 : n = 0 := by omega
    subst hn0
    refine X.seq ?_
    refine X.seq ?_
    refine X.region ?_
    refine Ex.pu ?_
    refine ExF.at 1 ?_
    refine ExF.pu ?_
    iterate 3 refine ExF.gi ?_
    refine ExF.done ?_
    refine Ex.pu ?_
    refine Ex.nil ?_
    refine X.cd rfl (fun hc2 => ?_) (fun hc2 => ?_)
    · have hfin : L ++ [t] = L ++ lsL m v 0 k t b := by unfold lsL; rw [if_pos hc2]
      refine X.region ?_
      iterate 2 refine Ex.pu ?_
      refine Ex.bs tmE [⟨_, _⟩] ?_
      iterate 2 refine Ex.mo ?_
      refine Ex.nil ?_
      refine X.ret ?_
      refine RetQX.imp (Imp.mv 2000010 2000011 rfl rfl) ?_
      refine RetQX.mk [] [] (.inr rfl) (.many (by decide) .nil)
      all_goals (rfl)
    · have hfin : L = L ++ lsL m v 0 k t b := by
        unfold lsL
        rw [if_neg (fun e => by rcases hc2 with h | h; rw [e.1] at h; cases h; omega)]; simp
      refine X.skip ?_
      refine X.ret ?_
      refine RetQX.imp (Imp.mv 2000010 2000011 rfl rfl) ?_
      refine RetQX.mk [] [] (.inr rfl) (.many (by decide) .nil)
      all_goals (rfl)
  obtain ⟨q, rfl⟩ : ∃ q, n = q + 1 := ⟨n - 1, by omega⟩
  have h3 : 3 ^ (q + 1) = 3 ^ q * 3 := Nat.pow_succ ..
  refine X.skip ?_
  refine X.seq ?_
  refine X.region ?_
  iterate 5 refine Ex.pu ?_
  refine Ex.co [(2000000, 2000000), (2000001, 2000001), (2000002, 2000002), (2000003, 2000003), (2000010, 2000010), (2000011, 2000012)] (ih q (by omega) (k + 1) (t) b (L) (by omega) (by omega) (by omega) (by omega)) ?_
  refine Ex.nil ?_
  refine X.seq ?_
  refine X.seq ?_
  refine X.region ?_
  iterate 2 refine Ex.pu ?_
  refine Ex.ca (C_spell_perfect m k hm h1 h8) ?_
  refine Ex.pu ?_
  refine Ex.nil ?_
  refine X.cd rfl (fun hc3 => ?_) (fun hc3 => ?_)
  · have hfin := lsL_no (v := v) (n := q) (t := t) (b := b) (L := L) hc3
    refine X.ret ?_
    refine RetQX.imp (Imp.mv 2000012 2000011 rfl rfl) ?_
    refine RetQX.mk [] [] (.inr rfl) (.many (by decide) .nil)
    all_goals (rfl)
  have hp : m.p k = 3 := hc3
  refine X.skip ?_
  refine X.seq ?_
  refine X.region ?_
  iterate 3 refine Ex.pu ?_
  refine Ex.ca (C_spell_full m (k + 1) hm (by omega) (by omega)) ?_
  refine Ex.al ?_
  refine Ex.mo ?_
  refine Ex.nil ?_
  refine X.seq ?_
  refine X.region ?_
  refine Ex.pu ?_
  refine Ex.nil ?_
  refine X.block ?_
  refine X.lp (ι := Nat) (fun (j : Nat) => [(0, iv k), (3, .ptr 2000000 0 0 0), (4, .ptr 2000001 0 0 0), (5, .ptr 2000002 0 0 0), (6, .ptr 2000003 0 0 0), (8, .ptr 8 0 0 0), (10, .ptr 10 0 0 0), (11, iv (1 + (j : Int)))]) (fun (j : Nat) => [(1000001, .hold vs [.ptr 2000000 0 0 0, .ptr 2000001 0 0 0, .ptr 2000002 0 0 0, .ptr 2000003 0 0 0]), (2000000, .box [.own 2000012] 26), (2000001, .box [.fn 70 [.ptr 2000000 0 0 0, .ptr 2000001 0 0 0, .ptr 2000002 0 0 0, .ptr 2000003 0 0 0]] 100), (2000002, .box (mnE m) 23), (2000003, .box [iv v] 3), (2000012, .row tmE (lsR m v q k t b L j) 51 2), (8, .box (tmE (lsT m k t j)) 51), (10, .box (tmE (fullT m (k + 1))) 51)]) (fun (j : Nat) => j ≤ 2 ∧ (∀ i, i < j → subE (lsT m k t i) (fullT m (k + 1)) = 0) ∧ (j = 2 → v < k)) (fun (j : Nat) => 2 - j) 0 (fun j hk => ?_) (hJ := by
    exact ⟨by omega, fun i hi => by omega, fun h => by omega⟩) (h0 := by
    exact Imp.ax)
  obtain ⟨hj2, hJ, h2⟩ := hk
  refine X.seq ?_
  refine X.seq ?_
  refine X.region ?_
  iterate 2 refine Ex.pu ?_
  refine ExF.at 2 ?_
  refine ExF.pu ?_
  iterate 7 refine ExF.gi ?_
  refine ExF.done ?_
  refine Ex.pu ?_
  refine Ex.nil ?_
  refine X.cd rfl (fun hc4 => ?_) (fun hc4 => ?_)
  · have hj01 : j = 0 ∨ (j = 1 ∧ v < k) := by omega
    have hlj : (lsR m v q k t b L j).length + 3 ^ q ≤ 1000 := by
      rcases hj01 with rfl | ⟨rfl, _⟩
      · have := lsR_len m v q k t b L 0; omega
      · have := lsR_len m v q k t b L 1; omega
    refine X.skip ?_
    refine X.seq ?_
    refine X.block ?_
    refine X.seq ?_
    refine X.region ?_
    iterate 2 refine Ex.pu ?_
    refine Ex.ca (C_span_Sub (lsT m k t j) (fullT m (k + 1))) ?_
    iterate 3 refine Ex.pu ?_
    refine Ex.al ?_
    refine Ex.mo ?_
    refine Ex.pu ?_
    refine Ex.nil ?_
    refine X.seq ?_
    refine X.seq ?_
    refine X.region ?_
    iterate 2 refine Ex.pu ?_
    refine Ex.nil ?_
    refine X.cd rfl (fun hc5 => ?_) (fun hc5 => ?_)
    · have hfin : lsR m v q k t b L j = L ++ lsL m v (q + 1) k t b := by
        rcases hj01 with rfl | ⟨rfl, hvk⟩
        · exact lsL_0 hp hc5
        · exact lsL_1 hp (hJ 0 (by omega)) (.inr hc5)
      refine X.ret ?_
      refine RetQX.imp (Imp.mv 2000012 2000011 rfl rfl) ?_
      refine RetQX.mk [] [] (.inr rfl) (.many (by decide) .nil)
      all_goals (rfl)
    refine X.skip ?_
    refine X.seq ?_
    refine X.region ?_
    refine Ex.pu ?_
    refine Ex.mo ?_
    refine Ex.nil ?_
    refine X.region ?_
    iterate 4 refine Ex.pu ?_
    refine Ex.co [(2000000, 2000000), (2000001, 2000001), (2000002, 2000002), (2000003, 2000003), (2000010, 2000012), (2000011, 2000013)] (ih q (by omega) (k + 1) (lsT m k t (j + 1)) true (lsR m v q k t b L j) (by omega) (by omega) (by omega) hlj) ?_
    refine Ex.nil ?_
    refine X.imp (st' := ⟨[(0, iv k), (3, .ptr 2000000 0 0 0), (4, .ptr 2000001 0 0 0), (5, .ptr 2000002 0 0 0), (6, .ptr 2000003 0 0 0), (8, .ptr 8 0 0 0), (10, .ptr 10 0 0 0), (11, iv (1 + (j : Int)))], [(1000001, .hold vs [.ptr 2000000 0 0 0, .ptr 2000001 0 0 0, .ptr 2000002 0 0 0, .ptr 2000003 0 0 0]), (2000000, .box [.own 2000013] 26), (2000001, .box [.fn 70 [.ptr 2000000 0 0 0, .ptr 2000001 0 0 0, .ptr 2000002 0 0 0, .ptr 2000003 0 0 0]] 100), (2000002, .box (mnE m) 23), (2000003, .box [iv v] 3), (2000013, .row tmE (lsR m v q k t b L (j + 1)) 51 2), (8, .box (tmE (lsT m k t (j + 1))) 51), (10, .box (tmE (fullT m (k + 1))) 51)]⟩) Imp.ax ?_
    refine X.imp (Imp.mv 2000013 2000012 rfl rfl) ?_
    refine X.region ?_
    iterate 3 refine Ex.pu ?_
    refine Ex.nil ?_
    refine X.bk (j + 1) (hJ := by
      refine ⟨by omega, fun i hi => ?_, fun h => by omega⟩
      rcases Nat.lt_or_ge i j with h | h
      · exact hJ i h
      · rw [show i = j by omega]; exact hc5) (hI := Imp.ax)
  · have hj12 : (j = 1 ∧ ¬ v < k) ∨ j = 2 := by omega
    have hfin : lsR m v q k t b L j = L ++ lsL m v (q + 1) k t b := by
      rcases hj12 with ⟨rfl, h⟩ | rfl
      · exact lsL_1 hp (hJ 0 (by omega)) (.inl h)
      · exact lsL_2 hp (hJ 0 (by omega)) (h2 rfl) (hJ 1 (by omega))
    refine X.exit ?_
    refine RetQX.imp (Imp.mv 2000012 2000011 rfl rfl) ?_
    refine RetQX.mk [] [] (.inl rfl) (.many (by decide) .nil)
    all_goals (rfl)
theorem C_spell_lost (m : Mn) (v : Int) (hm : ckM m = 0) (h1 : 1 ≤ v) (h8 : v ≤ 8) : Fn Tryz.prog 45 [mnA m, iv v] (tmsA (wdL m v 3)) := by
  have hp3 : 3 ^ (5 - v).toNat ≤ 3 ^ 4 := Nat.pow_le_pow_right (by decide) (by omega)
  have hp4 : 3 ^ 4 = 81 := rfl
  refine Fn.go Tryz.func45 Tryz.ntmps45 (fun g w d => ?_)
  refine X.seq ?_
  refine X.region ?_
  refine Ex.ba ?_
  refine Ex.bx ?_
  refine Ex.pu ?_
  refine Ex.nil ?_
  refine X.seq ?_
  refine X.region ?_
  refine Ex.al ?_
  refine Ex.nil ?_
  refine X.seq ?_
  refine X.region ?_
  refine Ex.al ?_
  refine Ex.nil ?_
  refine X.seq ?_
  refine X.region ?_
  refine Ex.pu ?_
  refine Ex.mo ?_
  refine Ex.nil ?_
  refine X.seq ?_
  refine X.imp (Imp.mkrowB tmE 51 2 5 20 26 rfl rfl) ?_
  refine X.dw [8,9,10,11,12] [0,0,0,0,12,31] mo ?_
  iterate 4 refine ChM.pu ?_
  refine ChM.ca (C_spell_full m v hm h1 h8) ?_
  refine ChM.tl ?_
  refine Ex.co [(2000000, 5), (2000001, 6), (2000002, 2), (2000003, 3), (2000010, 20), (2000011, 21)] (C_spell_lost_1 m hm v (5 - v).toNat v (fullT m v) false [] rfl h1 h8 (by simp; omega)) ?_
  refine Ex.nil ?_
  refine X.seq ?_
  refine X.region ?_
  iterate 2 refine Ex.pu ?_
  refine Ex.nil ?_
  refine X.ret ?_
  refine RetQ.imp (Imp.freeze (k := 21) rfl) ?_
  refine RetQ.ret (.one (.tmp rfl (LeV.eq ?_)))
  all_goals (first | rfl | (simp [wdL, *]; done) | (simp [wdL, *]; rfl) | (simp [wdL]; omega))
theorem C_spell_ways_1 (m : Mn) (v : Int) (hm : ckM m = 0) (h1 : 1 ≤ v) (h8 : v ≤ 8) : Fn Tryz.prog 41 [mnA m, iv v] (tmsA (wdL m v 1)) := by
  refine Fn.go Tryz.func41 Tryz.ntmps41 (fun g w d => ?_)
  refine X.seq ?_
  refine X.region ?_
  refine Ex.ba ?_
  refine Ex.pu ?_
  refine Ex.nil ?_
  refine X.seq ?_
  refine X.region ?_
  iterate 2 refine Ex.pu ?_
  refine Ex.ca (C_spell_full m v hm h1 h8) ?_
  refine Ex.bs tmE [fullT m v] ?_
  refine Ex.pu ?_
  refine Ex.nil ?_
  refine X.ret ?_
  refine RetQ.imp (Imp.freeze (k := 8) rfl) ?_
  refine RetQ.ret (.one (.tmp rfl (LeV.eq ?_)))
  all_goals (first | rfl | (simp [wdL, *]; done) | (simp [wdL, *]; rfl) | (simp [wdL]; omega))
theorem C_spell_ways_2 (m : Mn) (v : Int) (hm : ckM m = 0) (h1 : 1 ≤ v) (h8 : v ≤ 8) : Fn Tryz.prog 42 [mnA m, iv v] (tmsA (wdL m v 2)) := by
  refine Fn.go Tryz.func42 Tryz.ntmps42 (fun g w d => ?_)
  refine X.seq ?_
  refine X.region ?_
  refine Ex.ba ?_
  refine Ex.pu ?_
  refine Ex.nil ?_
  refine X.seq ?_
  refine X.seq ?_
  refine X.region ?_
  iterate 2 refine Ex.pu ?_
  refine Ex.ca (C_spell_perfect m v hm h1 h8) ?_
  refine Ex.nil ?_
  refine X.cd rfl (fun hc1 => ?_) (fun hc1 => ?_)
  · refine X.seq ?_
    refine X.region ?_
    refine Ex.pu ?_
    refine Ex.nil ?_
    refine X.ret ?_
    refine RetQ.imp (Imp.au (ts := [(4, tmsA [])]) (hs := [])) ?_
    refine RetQ.ret (.one (.tmp rfl (LeV.eq ?_)))
    all_goals (first | rfl | (simp [wdL, *]; done) | (simp [wdL, *]; rfl) | (simp [wdL]; omega))
  refine X.skip ?_
  refine X.seq ?_
  refine X.region ?_
  iterate 2 refine Ex.pu ?_
  refine Ex.ca (C_spell_full m v hm h1 h8) ?_
  refine Ex.ca (C_spell_times (fullT m v) 3 2) ?_
  refine Ex.pu ?_
  refine Ex.nil ?_
  refine X.ret ?_
  refine RetQ.ret (.one (.tmp rfl (LeV.eq ?_)))
  all_goals (simp [wdL, *])
theorem C_spell_ways_3 (m : Mn) (v : Int) (hm : ckM m = 0) (h1 : 1 ≤ v) (h8 : v ≤ 8) : Fn Tryz.prog 46 [mnA m, iv v] (tmsA (wdL m v 4)) := by
  refine Fn.go Tryz.func46 Tryz.ntmps46 (fun g w d => ?_)
  refine X.seq ?_
  refine X.region ?_
  refine Ex.ba ?_
  refine Ex.pu ?_
  refine Ex.nil ?_
  refine X.seq ?_
  refine X.seq ?_
  refine X.region ?_
  iterate 2 refine Ex.pu ?_
  refine ExF.at 2 ?_
  refine ExF.pu ?_
  iterate 3 refine ExF.gi ?_
  refine ExF.cp (p := ¬ v = 1) (fun hgd => C_spell_perfect m (v - 1) hm (by omega) (by omega)) ?_
  refine ExF.gi ?_
  refine ExF.done ?_
  refine Ex.pu ?_
  refine Ex.nil ?_
  refine X.cd rfl (fun hc1 => ?_) (fun hc1 => ?_)
  · refine X.seq ?_
    refine X.region ?_
    refine Ex.pu ?_
    refine Ex.nil ?_
    refine X.ret ?_
    refine RetQ.imp (Imp.au (ts := [(4, tmsA [])]) (hs := [])) ?_
    refine RetQ.ret (.one (.tmp rfl (LeV.eq ?_)))
    all_goals (first | rfl | (simp [wdL, *]; done) | (simp [wdL, *]; rfl) | (simp [wdL]; omega))
  refine X.skip ?_
  refine X.seq ?_
  refine X.region ?_
  iterate 2 refine Ex.pu ?_
  refine Ex.ca (C_spell_full m v hm h1 h8) ?_
  refine Ex.ca (C_spell_times (fullT m v) 2 1) ?_
  refine Ex.pu ?_
  refine Ex.nil ?_
  refine X.ret ?_
  refine RetQ.ret (.one (.tmp rfl (LeV.eq ?_)))
  all_goals (simp [wdL, *])
theorem C_spell_ways_4 (m : Mn) (v : Int) (hm : ckM m = 0) (h1 : 1 ≤ v) (h8 : v ≤ 8) : Fn Tryz.prog 47 [mnA m, iv v] (tmsA (wdL m v 5)) := by
  refine Fn.go Tryz.func47 Tryz.ntmps47 (fun g w d => ?_)
  refine X.seq ?_
  refine X.region ?_
  refine Ex.ba ?_
  refine Ex.pu ?_
  refine Ex.nil ?_
  refine X.seq ?_
  refine X.region ?_
  iterate 2 refine Ex.pu ?_
  refine Ex.ca (C_spell_tinted m v hm h1 h8) ?_
  refine Ex.bs tmE [durT m v] ?_
  refine Ex.pu ?_
  refine Ex.nil ?_
  refine X.ret ?_
  refine RetQ.imp (Imp.freeze (k := 8) rfl) ?_
  refine RetQ.ret (.one (.tmp rfl (LeV.eq ?_)))
  all_goals (first | rfl | (simp [wdL, *]; done) | (simp [wdL, *]; rfl) | (simp [wdL]; omega))
theorem C_spell_ways_5 (m : Mn) (v : Int) (hm : ckM m = 0) (h1 : 1 ≤ v) (h8 : v ≤ 8) : Fn Tryz.prog 49 [mnA m, iv v] (tmsA (wdL m v 6)) := by
  refine Fn.go Tryz.func49 Tryz.ntmps49 (fun g w d => ?_)
  refine X.seq ?_
  refine X.region ?_
  refine Ex.ba ?_
  refine Ex.pu ?_
  refine Ex.nil ?_
  refine X.seq ?_
  refine X.region ?_
  iterate 2 refine Ex.pu ?_
  refine Ex.ca (C_spell_tinted m v hm h1 h8) ?_
  refine Ex.ca (C_spell_times (durT m v) 3 2) ?_
  refine Ex.pu ?_
  refine Ex.nil ?_
  refine X.ret ?_
  refine RetQ.ret (.one (.tmp rfl (LeV.eq ?_)))
  all_goals (simp [wdL, *])
theorem C_spell_ways_6 (m : Mn) (v : Int) (hm : ckM m = 0) (h1 : 1 ≤ v) (h8 : v ≤ 8) : Fn Tryz.prog 50 [mnA m, iv v] (tmsA (wdL m v 7)) := by
  refine Fn.go Tryz.func50 Tryz.ntmps50 (fun g w d => ?_)
  refine X.seq ?_
  refine X.region ?_
  refine Ex.ba ?_
  refine Ex.pu ?_
  refine Ex.nil ?_
  refine X.seq ?_
  refine X.block ?_
  refine X.seq ?_
  refine X.region ?_
  iterate 3 refine Ex.pu ?_
  refine ExF.at 3 ?_
  refine ExF.pu ?_
  iterate 2 refine ExF.gi ?_
  refine ExF.done ?_
  iterate 2 refine Ex.pu ?_
  refine Ex.nil ?_
  refine X.cd rfl (fun hc1 => ?_) (fun hc1 => ?_)
  · refine X.seq ?_
    refine X.region ?_
    refine Ex.pu ?_
    refine Ex.bs tmE [⟨3, 2⟩] ?_
    refine Ex.pu ?_
    refine Ex.nil ?_
    refine X.ret ?_
    refine RetQ.imp (Imp.freeze (k := 14) rfl) ?_
    refine RetQ.ret (.one (.tmp rfl (LeV.eq ?_)))
    all_goals (first | rfl | (rw [hW]; done) | (simp [wdL, *]; done) | (simp [wdL, *]; rfl) | (simp [wdL]; omega))
  refine X.seq ?_
  refine X.region ?_
  iterate 3 refine Ex.pu ?_
  refine ExF.at 3 ?_
  refine ExF.pu ?_
  iterate 2 refine ExF.gi ?_
  refine ExF.done ?_
  iterate 2 refine Ex.pu ?_
  refine Ex.nil ?_
  refine X.cd rfl (fun hc2 => ?_) (fun hc2 => ?_)
  · refine X.seq ?_
    refine X.region ?_
    refine Ex.pu ?_
    refine Ex.bs tmE [⟨1, 2⟩] ?_
    refine Ex.pu ?_
    refine Ex.nil ?_
    refine X.ret ?_
    refine RetQ.imp (Imp.freeze (k := 24) rfl) ?_
    refine RetQ.ret (.one (.tmp rfl (LeV.eq ?_)))
    all_goals (first | rfl | (rw [hW]; done) | (simp [wdL, *]; done) | (simp [wdL, *]; rfl) | (simp [wdL]; omega))
  have hW : wdL m v 7 = [] := by
    have e : wdL m v 7 = (if m.Pro = 2 ∧ v = 4 then [⟨3, 2⟩] else if m.Pro = 2 ∧ v = 5 then [⟨1, 2⟩] else []) := rfl
    rw [e, if_neg (by omega), if_neg (by omega)]
  refine X.skip ?_
  refine X.seq ?_
  refine X.region ?_
  refine Ex.pu ?_
  refine Ex.nil ?_
  refine X.ret ?_
  refine RetQ.imp (Imp.au (ts := [(4, tmsA [])]) (hs := [])) ?_
  refine RetQ.ret (.one (.tmp rfl (LeV.eq ?_)))
  all_goals (first | rfl | (rw [hW]; done) | (simp [wdL, *]; done) | (simp [wdL, *]; rfl) | (simp [wdL]; omega))
theorem C_spell_ways_7 (m : Mn) (v : Int) (hm : ckM m = 0) (h1 : 1 ≤ v) (h8 : v ≤ 8) : Fn Tryz.prog 51 [mnA m, iv v] (tmsA (wdL m v 8)) := by
  refine Fn.go Tryz.func51 Tryz.ntmps51 (fun g w d => ?_)
  refine X.seq ?_
  refine X.region ?_
  refine Ex.ba ?_
  refine Ex.pu ?_
  refine Ex.nil ?_
  refine X.seq ?_
  refine X.region ?_
  iterate 2 refine Ex.pu ?_
  refine Ex.ca (C_spell_full m v hm h1 h8) ?_
  refine Ex.bs tmE [fullT m v] ?_
  refine Ex.pu ?_
  refine Ex.nil ?_
  refine X.ret ?_
  refine RetQ.imp (Imp.freeze (k := 8) rfl) ?_
  refine RetQ.ret (.one (.tmp rfl (LeV.eq ?_)))
  all_goals (first | rfl | (simp [wdL, *]; done) | (simp [wdL, *]; rfl) | (simp [wdL]; omega))
theorem C_spell_ways  : Fn Tryz.prog 25 [] (.agg waysA) := by
  refine Fn.go Tryz.func25 Tryz.ntmps25 (fun g w d => ?_)
  refine X.seq ?_
  refine X.region ?_
  refine Ex.al ?_
  refine Ex.nil ?_
  refine X.seq ?_
  refine X.region ?_
  iterate 9 refine Ex.pu ?_
  refine Ex.mo ?_
  refine Ex.nil ?_
  refine X.ret ?_
  refine RetQ.ret (.one (.cellA rfl rfl rfl rfl ty65 (LeV.eq ?_)))
  all_goals (rfl)
end Go.Rse
