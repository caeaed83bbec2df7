/-
  Walks: the reference's combinations of meanings.
-/
import Derived.Test.YtmbjfeaipblfcaaGreatDoorItem3
import Derived.Test.YtmbjfeaipblfcaaGreatDoorRefA
namespace Go.Rse
open Go Go.Proofs
set_option linter.unusedVariables false
set_option linter.unusedSimpArgs false
attribute [local irreducible] Pur StepA StepM Ex X ExG Fn Imp LeV LeB FnO It YStep
theorem kL_eq (m : Mn) (l : List Sg) : (mnsD m l).map (fun x => (x.length : Int)) ++ twos (prL m l).length = kL m l := rfl
theorem kL_0 (m : Mn) (l : List Sg) : ((mnsD m l).take (mnsD m l).length).map (fun x => (x.length : Int)) = (mnsD m l).map (fun x => (x.length : Int)) ++ twos 0 := by rw [List.take_length]; simp [twos]
theorem map_snoc {L : List (List Int)} {k : Nat} {x : List Int} (h : L[k]? = some x) : (L.take k).map (fun x => (x.length : Int)) ++ [(x.length : Int)] = (L.take (k + 1)).map (fun x => (x.length : Int)) := by
  rw [← take_snoc h, List.map_append]; rfl
theorem app_snoc (X : List Int) (k : Nat) : X ++ twos k ++ [2] = X ++ twos (k + 1) := by rw [List.append_assoc, twos_snoc]
theorem kL_le2 {m : Mn} {l : List Sg} : ∀ x ∈ kL m l, x ≤ 2 := fun x hx => by
  unfold kL at hx
  rcases List.mem_append.1 hx with h | h
  · obtain ⟨y, hy, rfl⟩ := List.mem_map.1 h
    have := mnsD_len2 hy; omega
  · unfold twos at h; rw [List.eq_of_mem_replicate h]; decide
theorem ict_hi {m : Mn} {l : List Sg} (h : ckD m l = 0) (h2 : 64 < cntK 1 (kL m l)) : 15 = ictE m l ∧ 0 = ictV m l := by
  have := ict_law h
  rw [if_pos h2, if_pos h2] at this
  exact ⟨this.1.symm, this.2.symm⟩
theorem ict_lo {m : Mn} {l : List Sg} (h : ckD m l = 0) {q : Int} (h2 : cntK 1 (kL m l) = q) (h3 : q ≤ 64) : 0 = ictE m l ∧ q = ictV m l := by
  have := ict_law h
  rw [h2, if_neg (by omega), if_neg (by omega)] at this
  exact ⟨this.1.symm, this.2.symm⟩
theorem w_Ns (k : List Int) (n : Int) (j : Nat) : wN k n j / k.getD (k.length - 1 - j) 0 = wN k n (j + 1) := rfl
theorem w_N0 (k : List Int) (n : Int) : n = wN k n 0 := rfl
theorem w_row0 (k : List Int) (n : Int) : List.replicate ((k.length : Nat) : Int).toNat 0 = List.replicate (k.length - 0) 0 ++ wR k n 0 := by simp [wR]
theorem w_rowN (k : List Int) (n : Int) : List.replicate (k.length - k.length) 0 ++ wR k n k.length = wR k n k.length := by simp
attribute [local irreducible] cntV cntE colN colE ictE ictV ica icb dgL iofE iofD iofM ckD ruleD twos prL kL mnsD wR wN ofD digP
set_option maxHeartbeats 4000000 in
theorem C_tactusref13_many (m : Mn) (l : List Sg) (hl : l.length ≤ 1000) (hck : ckD m l = 0) : Fn Tryz.prog 75 [mnA m, sgsA l] (intsA (kL m l)) := by
  have hM := C_tactusref09_Meanings' m l hl
  rw [if_pos hck] at hM
  have hml := mnsD_len m l
  have hpl := prL_len m l
  have hq0 := kL_0 m l
  have hqE := kL_eq m l
  refine Fn.go Tryz.func75 Tryz.ntmps75 (fun g w d => ?_)
  refine X.seq ?_
  refine X.region ?_
  refine Ex.ba ?_
  refine Ex.pu ?_
  refine Ex.nil ?_
  refine X.seq ?_
  refine X.region ?_
  refine Ex.pu ?_
  refine Ex.nil ?_
  refine X.seq ?_
  refine X.imp (Imp.mkrow intE 3 1 5 50 rfl rfl) ?_
  refine X.region ?_
  iterate 2 refine Ex.pu ?_
  refine Ex.ca hM ?_
  iterate 5 refine Ex.pu ?_
  refine Ex.nil ?_
  refine X.seq ?_
  refine X.seq ?_
  refine X.region ?_
  refine Ex.pu ?_
  refine Ex.nil ?_
  refine X.block ?_
  refine X.lp (ι := Nat) (fun (k : Nat) => [(1, sgsA l), (2, .ptr 2 0 0 0), (5, .own 50), (6, listsA (mnsD m l)), (8, iv (k : Int))]) (fun (k : Nat) => [(2, .box (mnE m) 23), (50, .row intE (((mnsD m l).take k).map (fun x => (x.length : Int))) 3 1)]) (fun (k : Nat) => k ≤ (mnsD m l).length) (fun (k : Nat) => (mnsD m l).length - k) 0 (fun k hk => ?_)
  refine X.seq ?_
  refine X.seq ?_
  refine X.region ?_
  iterate 4 refine Ex.pu ?_
  refine Ex.nil ?_
  refine X.cd rfl (fun hc1 => ?_) (fun hc1 => ?_)
  · obtain ⟨x, hx⟩ : ∃ x, (mnsD m l)[k]? = some x := ⟨_, List.getElem?_eq_getElem (by omega)⟩
    have hx2 : (mnsD m l)[(k : Int).toNat]? = some x := by simpa using hx
    have hst := map_snoc hx
    have hlen : (((mnsD m l).take k).map (fun x => (x.length : Int))).length ≤ 1000 := by simp; omega
    refine X.skip ?_
    refine X.seq ?_
    refine X.block ?_
    refine X.region ?_
    iterate 6 refine Ex.pu ?_
    refine Ex.bs intE [(x.length : Int)] ?_
    refine Ex.mo ?_
    refine Ex.pu ?_
    refine Ex.nil ?_
    refine X.region ?_
    iterate 3 refine Ex.pu ?_
    refine Ex.nil ?_
    refine X.bk (k + 1)
  · have hkl : k = (mnsD m l).length := by omega
    subst hkl
    refine X.exit ?_
    refine X.seq ?_
    refine X.region ?_
    iterate 2 refine Ex.pu ?_
    refine Ex.ca (C_tactusref11_Pairs' m l hl) ?_
    iterate 5 refine Ex.pu ?_
    refine Ex.nil ?_
    refine X.seq ?_
    refine X.seq ?_
    refine X.region ?_
    refine Ex.pu ?_
    refine Ex.nil ?_
    refine X.block ?_
    refine X.lp (ι := Nat) (fun (k : Nat) => [(5, .own 50), (9, intsA (prL m l)), (11, iv (k : Int))]) (fun (k : Nat) => [(50, .row intE ((mnsD m l).map (fun x => (x.length : Int)) ++ twos k) 3 1)]) (fun (k : Nat) => k ≤ (prL m l).length) (fun (k : Nat) => (prL m l).length - k) 0 (fun k hk => ?_)
    refine X.seq ?_
    refine X.seq ?_
    refine X.region ?_
    iterate 4 refine Ex.pu ?_
    refine Ex.nil ?_
    refine X.cd rfl (fun hc2 => ?_) (fun hc2 => ?_)
    · have hst := app_snoc ((mnsD m l).map (fun x => (x.length : Int))) k
      have hlen : ((mnsD m l).map (fun x => (x.length : Int)) ++ twos k).length ≤ 2000 := by rw [List.length_append, twos_len, List.length_map]; omega
      refine X.skip ?_
      refine X.seq ?_
      refine X.block ?_
      refine X.region ?_
      refine Ex.pu ?_
      refine Ex.bs intE [2] ?_
      refine Ex.mo ?_
      refine Ex.pu ?_
      refine Ex.nil ?_
      refine X.region ?_
      iterate 3 refine Ex.pu ?_
      refine Ex.nil ?_
      refine X.bk (k + 1)
    · have hkl : k = (prL m l).length := by omega
      subst hkl
      refine X.exit ?_
      refine X.seq ?_
      refine X.region ?_
      iterate 2 refine Ex.pu ?_
      refine Ex.nil ?_
      refine X.ret ?_
      refine RetQ.imp (Imp.freeze (k := 50) rfl) ?_
      refine RetQ.ret (.one (.tmp rfl (LeV.eq ?_)))
      all_goals (exact congrArg intsA hqE)
set_option maxHeartbeats 4000000 in
theorem C_tactusref13_Count (m : Mn) (l : List Sg) (hl : l.length ≤ 1000) : Fn Tryz.prog 24 [mnA m, sgsA l] (.tup [iv (ictV m l), iv (ictE m l)]) := by
  have hml := mnsD_len m l
  have hpl := prL_len m l
  have hkl0 := kL_len (m := m) (l := l)
  refine Fn.go Tryz.func24 Tryz.ntmps24 (fun g w d => ?_)
  refine X.seq ?_
  refine X.region ?_
  refine Ex.ba ?_
  iterate 2 refine Ex.pu ?_
  refine Ex.nil ?_
  refine X.seq ?_
  refine X.seq ?_
  refine X.region ?_
  iterate 2 refine Ex.pu ?_
  refine Ex.ca (C_tactusref09_Check' m l hl) ?_
  refine Ex.pu ?_
  refine Ex.nil ?_
  refine X.seq ?_
  refine X.region ?_
  iterate 2 refine Ex.pu ?_
  refine Ex.nil ?_
  refine X.cd rfl (fun hc1 => ?_) (fun hc1 => ?_)
  · have hZ := ict_n (m := m) (l := l) hc1
    have hE := hZ.1.symm
    have hV := hZ.2.symm
    refine X.seq ?_
    refine X.region ?_
    iterate 3 refine Ex.pu ?_
    refine Ex.nil ?_
    refine X.ret ?_
    refine RetQ.ret (.many (by decide) (.cons (.tmp rfl (LeV.eq ?_)) (.cons (.tmp rfl (LeV.eq ?_)) .nil)))
    all_goals (first | exact congrArg (AV.int .i64) hE | exact congrArg (AV.int .i64) hV)
  refine X.skip ?_
  refine X.seq ?_
  refine X.region ?_
  refine Ex.pu ?_
  refine Ex.nil ?_
  refine X.seq ?_
  refine X.region ?_
  iterate 2 refine Ex.pu ?_
  refine Ex.ca (C_tactusref13_many m l hl hc1) ?_
  refine Ex.pu ?_
  refine Ex.nil ?_
  refine X.seq ?_
  refine X.seq ?_
  refine X.region ?_
  refine Ex.pu ?_
  refine Ex.nil ?_
  refine X.block ?_
  refine X.lp (ι := Nat × Int) (fun (p : Nat × Int) => [(7, iv p.2), (8, intsA (kL m l)), (9, iv (p.1 : Int))]) (fun (p : Nat × Int) => []) (fun (p : Nat × Int) => p.1 ≤ (kL m l).length ∧ 1 ≤ p.2 ∧ p.2 ≤ 64 ∧ cntK 1 (kL m l) = cntK p.2 ((kL m l).drop p.1)) (fun (p : Nat × Int) => (kL m l).length - p.1) (0, 1) (fun p hk => ?_) (hJ := by
    exact ⟨by dsimp only; omega, by decide, by decide, rfl⟩)
  obtain ⟨k, q⟩ := p
  obtain ⟨k1, k2, k3, k4⟩ := hk
  dsimp only at *
  refine X.seq ?_
  refine X.seq ?_
  refine X.region ?_
  iterate 4 refine Ex.pu ?_
  refine Ex.nil ?_
  refine X.cd rfl (fun hc2 => ?_) (fun hc2 => ?_)
  · obtain ⟨x, hx⟩ : ∃ x, (kL m l)[k]? = some x := ⟨_, List.getElem?_eq_getElem (by omega)⟩
    have hx2 : (kL m l)[(k : Int).toNat]? = some x := by simpa using hx
    have hx1 := kL_pos hc1 x (List.mem_of_getElem? hx)
    have hxb := kL_le2 x (List.mem_of_getElem? hx)
    have hqx := mul_pos1 k2 hx1
    have hqb := mulB (show 0 ≤ q by omega) k3 (show 0 ≤ x by omega) hxb
    have hstep := cntK_step (n := q) hx
    refine X.skip ?_
    refine X.seq ?_
    refine X.block ?_
    refine X.seq ?_
    refine X.region ?_
    iterate 7 refine Ex.pu ?_
    refine Ex.nil ?_
    refine X.seq ?_
    refine X.region ?_
    iterate 2 refine Ex.pu ?_
    refine Ex.nil ?_
    refine X.cd rfl (fun hc3 => ?_) (fun hc3 => ?_)
    · have hZ := ict_hi hc1 (by rw [k4, hstep, if_pos hc3]; exact hc3)
      have hE := hZ.1
      have hV := hZ.2
      refine X.seq ?_
      refine X.region ?_
      iterate 2 refine Ex.pu ?_
      refine Ex.nil ?_
      refine X.ret ?_
      refine RetQ.ret (.many (by decide) (.cons (.tmp rfl (LeV.eq ?_)) (.cons (.tmp rfl (LeV.eq ?_)) .nil)))
      all_goals (first | exact congrArg (AV.int .i64) hE | exact congrArg (AV.int .i64) hV)
    refine X.skip ?_
    refine X.region ?_
    iterate 3 refine Ex.pu ?_
    refine Ex.nil ?_
    refine X.bk ((k + 1, q * x)) (hJ := by
      exact ⟨by dsimp only; omega, hqx, by dsimp only; omega, by rw [k4, hstep, if_neg (by omega)]⟩)
  · have hkl : k = (kL m l).length := by omega
    subst hkl
    have hZ := ict_lo hc1 (q := q) (by rw [k4, List.drop_length]; rfl) k3
    have hE := hZ.1
    have hV := hZ.2
    refine X.exit ?_
    refine X.seq ?_
    refine X.region ?_
    iterate 3 refine Ex.pu ?_
    refine Ex.nil ?_
    refine X.ret ?_
    refine RetQ.ret (.many (by decide) (.cons (.tmp rfl (LeV.eq ?_)) (.cons (.tmp rfl (LeV.eq ?_)) .nil)))
    all_goals (first | exact congrArg (AV.int .i64) hE | exact congrArg (AV.int .i64) hV)
set_option maxHeartbeats 8000000 in
theorem C_tactusref13_Of (m : Mn) (l : List Sg) (n : Int) (hl : l.length ≤ 1000) : Fn Tryz.prog 26 [mnA m, sgsA l, iv n] (.tup [intsA (iofD m l n), intsA (iofM m l n), iv (iofE m l n)]) := by
  refine Fn.go Tryz.func26 Tryz.ntmps26 (fun g w d => ?_)
  refine X.seq ?_
  refine X.region ?_
  refine Ex.ba ?_
  iterate 3 refine Ex.pu ?_
  refine Ex.nil ?_
  refine X.seq ?_
  refine X.region ?_
  iterate 2 refine Ex.pu ?_
  refine Ex.ca (C_tactusref13_Count m l hl) ?_
  iterate 5 refine Ex.pu ?_
  refine Ex.nil ?_
  refine X.seq ?_
  refine X.seq ?_
  refine X.region ?_
  iterate 2 refine Ex.pu ?_
  refine Ex.nil ?_
  refine X.cd rfl (fun hc1 => ?_) (fun hc1 => ?_)
  · have hE : ictE m l = iofE m l n := by unfold iofE; rw [if_neg hc1]
    have hD := (iofD_n (n := n) (by rw [← hE]; exact hc1)).symm
    have hMi := (iofM_n (n := n) (by rw [← hE]; exact hc1)).symm
    refine X.seq ?_
    refine X.region ?_
    iterate 4 refine Ex.pu ?_
    refine Ex.nil ?_
    refine X.ret ?_
    refine RetQ.imp (Imp.au (ts := [(6, intsA []), (7, intsA []), (8, iv (ictE m l))]) (hs := [])) ?_
    refine RetQ.ret (.many (by decide) (.cons (.tmp rfl (LeV.eq ?_)) (.cons (.tmp rfl (LeV.eq ?_)) (.cons (.tmp rfl (LeV.eq ?_)) .nil))))
    all_goals (first | exact congrArg intsA hD | exact congrArg intsA hMi | exact congrArg intsA hD2 | exact congrArg intsA hM2 | exact congrArg (AV.int .i64) hE)
  have hi0 := ict_0 hc1
  have hck := hi0.1
  have h64 := hi0.2.2.2.2.2.2.1
  have hM := C_tactusref09_Meanings' m l hl
  rw [if_pos hck] at hM
  have hml := mnsD_len m l
  have hpl := prL_len m l
  have hkl := kL_len (m := m) (l := l)
  have hkp := kL_pos hck
  refine X.skip ?_
  refine X.seq ?_
  refine X.seq ?_
  refine X.region ?_
  iterate 2 refine Ex.pu ?_
  refine ExF.at 2 ?_
  refine ExF.pu ?_
  iterate 3 refine ExF.gi ?_
  refine ExF.done ?_
  refine Ex.pu ?_
  refine Ex.nil ?_
  refine X.cd rfl (fun hc2 => ?_) (fun hc2 => ?_)
  · have hE : 2 = iofE m l n := by unfold iofE; rw [if_pos hc1, if_pos hc2]
    have hD := (iofD_n (m := m) (l := l) (n := n) (by omega)).symm
    have hMi := (iofM_n (m := m) (l := l) (n := n) (by omega)).symm
    refine X.seq ?_
    refine X.region ?_
    iterate 3 refine Ex.pu ?_
    refine Ex.nil ?_
    refine X.ret ?_
    refine RetQ.imp (Imp.au (ts := [(6, intsA []), (7, intsA []), (8, iv 2)]) (hs := [])) ?_
    refine RetQ.ret (.many (by decide) (.cons (.tmp rfl (LeV.eq ?_)) (.cons (.tmp rfl (LeV.eq ?_)) (.cons (.tmp rfl (LeV.eq ?_)) .nil))))
    all_goals (first | exact congrArg intsA hD | exact congrArg intsA hMi | exact congrArg intsA hD2 | exact congrArg intsA hM2 | exact congrArg (AV.int .i64) hE)
  have hE : 0 = iofE m l n := by unfold iofE; rw [if_pos hc1, if_neg (by omega)]
  have hD : (ofD (mnsD m l) (n / 2 ^ (prL m l).length)) = iofD m l n := by unfold iofD; rw [if_pos hE.symm]
  have hMi : digP n (prL m l).length (prL m l).length = iofM m l n := by unfold iofM; rw [if_pos hE.symm]
  have hn0 : 0 ≤ n := by omega
  have hw0 := w_N0 (kL m l) n
  have hrow0 := w_row0 (kL m l) n
  have hrowN := w_rowN (kL m l) n
  have hDl : (ofD (mnsD m l) (n / 2 ^ (prL m l).length)).length = (mnsD m l).length := by unfold ofD; exact ofRow_len _ _ _
  refine X.skip ?_
  refine X.seq ?_
  refine X.region ?_
  iterate 2 refine Ex.pu ?_
  refine Ex.ca (C_tactusref13_many m l hl hck) ?_
  refine Ex.pu ?_
  refine Ex.nil ?_
  refine X.seq ?_
  refine X.region ?_
  iterate 2 refine Ex.pu ?_
  refine Ex.stepA (A_makeSlice (k := 40) (enc := intE) 0 sl25 ti3 rfl (by decide) rfl rfl rfl rfl (by omega) (fun _ => rfl) hz_int) rfl rfl ?_
  refine Ex.pu ?_
  refine Ex.nil ?_
  refine X.seq ?_
  refine X.seq ?_
  refine X.region ?_
  iterate 4 refine Ex.pu ?_
  refine Ex.nil ?_
  refine X.block ?_
  refine X.lp (ι := Nat) (fun (j : Nat) => [(1, sgsA l), (2, iv (wN (kL m l) n j)), (3, .ptr 3 0 0 0), (11, intsA (kL m l)), (12, .own 40), (13, iv (((kL m l).length : Int) - 1 - (j : Int)))]) (fun (j : Nat) => [(3, .box (mnE m) 23), (40, .row intE (List.replicate ((kL m l).length - j) 0 ++ wR (kL m l) n j) 3 1)]) (fun (j : Nat) => j ≤ (kL m l).length) (fun (j : Nat) => (kL m l).length - j) 0 (fun j hk => ?_)
  refine X.seq ?_
  refine X.seq ?_
  refine X.region ?_
  iterate 2 refine Ex.pu ?_
  refine Ex.nil ?_
  refine X.cd rfl (fun hc3 => ?_) (fun hc3 => ?_)
  · have hj4 : j < (kL m l).length := by omega
    have hN := wN_nn hn0 hkp j (by omega)
    have hN0 := hN.1
    have hN1 := hN.2
    have hu2 : (kL m l)[(((kL m l).length : Int) - 1 - j).toNat]? = some ((kL m l).getD ((kL m l).length - 1 - j) 0) := by
      rw [show (((kL m l).length : Int) - 1 - j).toNat = (kL m l).length - 1 - j by omega, List.getD_eq_getElem?_getD, List.getElem?_eq_getElem (by omega)]; rfl
    have hx1 := hkp _ (List.mem_of_getElem? hu2)
    have hrl : (List.replicate ((kL m l).length - j) 0 ++ wR (kL m l) n j).length = (kL m l).length := by rw [List.length_append, wR_len, List.length_replicate]; omega
    have hset : (List.replicate ((kL m l).length - j) 0 ++ wR (kL m l) n j).set (((kL m l).length : Int) - 1 - j).toNat (wN (kL m l) n j % (kL m l).getD ((kL m l).length - 1 - j) 0) = List.replicate ((kL m l).length - (j + 1)) 0 ++ wR (kL m l) n (j + 1) := by
      rw [show (((kL m l).length : Int) - 1 - j).toNat = (kL m l).length - 1 - j by omega]; exact w_set hj4
    have hNs : wN (kL m l) n j / (kL m l).getD ((kL m l).length - 1 - j) 0 = wN (kL m l) n (j + 1) := w_Ns _ _ _
    refine X.skip ?_
    refine X.seq ?_
    refine X.block ?_
    refine X.seq ?_
    refine X.region ?_
    iterate 9 refine Ex.pu ?_
    refine Ex.mo ?_
    refine Ex.nil ?_
    refine X.region ?_
    iterate 7 refine Ex.pu ?_
    refine Ex.nil ?_
    refine X.region ?_
    iterate 3 refine Ex.pu ?_
    refine Ex.nil ?_
    refine X.bk (j + 1) (hJ := by
      omega)
  · have hjl : j = (kL m l).length := by omega
    subst hjl
    have ht0 : [] = (ofD (mnsD m l) (n / 2 ^ (prL m l).length)).take 0 := by simp
    have hm0 : [] = digP n (prL m l).length (0 - (mnsD m l).length) := by rw [Nat.zero_sub]; unfold digP; rfl
    refine X.exit ?_
    refine X.seq ?_
    refine X.region ?_
    iterate 2 refine Ex.pu ?_
    refine Ex.ca hM ?_
    iterate 5 refine Ex.pu ?_
    refine Ex.nil ?_
    refine X.seq ?_
    refine X.region ?_
    iterate 2 refine Ex.pu ?_
    refine Ex.nil ?_
    refine X.seq ?_
    refine X.seq ?_
    refine X.imp (Imp.mkrow intE 3 1 16 101 rfl rfl) ?_
    refine X.imp (Imp.mkrow intE 3 1 17 102 rfl rfl) ?_
    refine X.region ?_
    refine Ex.pu ?_
    refine Ex.nil ?_
    refine X.block ?_
    refine X.lp (ι := Nat) (fun (i : Nat) => [(11, intsA (kL m l)), (12, .own 40), (14, listsA (mnsD m l)), (16, .own 101), (17, .own 102), (18, iv (i : Int))]) (fun (i : Nat) => [(40, .row intE (wR (kL m l) n (kL m l).length) 3 1), (101, .row intE ((ofD (mnsD m l) (n / 2 ^ (prL m l).length)).take i) 3 1), (102, .row intE (digP n (prL m l).length (i - (mnsD m l).length)) 3 1)]) (fun (i : Nat) => i ≤ (kL m l).length) (fun (i : Nat) => (kL m l).length - i) 0 (fun i hk => ?_)
    refine X.seq ?_
    refine X.seq ?_
    refine X.region ?_
    iterate 4 refine Ex.pu ?_
    refine Ex.nil ?_
    refine X.cd rfl (fun hc4 => ?_) (fun hc4 => ?_)
    · refine X.skip ?_
      refine X.seq ?_
      refine X.block ?_
      refine X.seq ?_
      refine X.region ?_
      iterate 4 refine Ex.pu ?_
      refine Ex.nil ?_
      refine X.cd rfl (fun hc5 => ?_) (fun hc5 => ?_)
      · have hil : i < (mnsD m l).length := by omega
        have hZ1 := w_dot (m := m) (l := l) n hil
        obtain ⟨x, hx, hxe, hd⟩ := hZ1
        have hy2 : (mnsD m l)[(i : Int).toNat]? = some ((mnsD m l).getD i []) := by
          rw [Int.toNat_natCast, List.getD_eq_getElem?_getD, List.getElem?_eq_getElem hil]; rfl
        have hyp := mnsD_pos hck (List.mem_of_getElem? hy2)
        have hx0 : 0 ≤ x := by rw [hxe]; exact Int.emod_nonneg _ (by omega)
        have hxl : x < (((mnsD m l).getD i []).length : Int) := by rw [hxe]; exact Int.emod_lt_of_pos _ (by omega)
        have hx2 : (wR (kL m l) n (kL m l).length)[(i : Int).toNat]? = some x := by simpa using hx
        have hv2 : ((mnsD m l).getD i [])[x.toNat]? = some (((mnsD m l).getD i []).getD x.toNat 0) := by
          rw [List.getD_eq_getElem?_getD (l := (mnsD m l).getD i []), List.getElem?_eq_getElem (by omega)]; rfl
        have hst := take_snoc hd
        have hs2 : digP n (prL m l).length (i - (mnsD m l).length) = digP n (prL m l).length (i + 1 - (mnsD m l).length) := by rw [show i - (mnsD m l).length = 0 by omega, show i + 1 - (mnsD m l).length = 0 by omega]
        have hlen : ((ofD (mnsD m l) (n / 2 ^ (prL m l).length)).take i).length ≤ 1000 := by rw [List.length_take]; omega
        have hwl := wR_len (kL m l) n (kL m l).length
        refine X.dw [79,80,81,82,83,84,85,86,87,88,89,90] [0,0,0,6,14,0,0,96,224,510,1022,2046,4095,8191] mo ?_
        iterate 11 refine ChM.pu ?_
        refine ChM.step rfl rfl rfl (A_buildSlice (k := 90) (enc := intE) (l := [((mnsD m l).getD i []).getD x.toNat 0]) sl25 ty3 ze3 (by decide) rfl rfl rfl rfl (by decide) (by decide) (fun _ => rfl) rfl) rfl ?_
        refine ChM.tl ?_
        refine Ex.mo ?_
        refine Ex.pu ?_
        refine Ex.nil ?_
        refine X.region ?_
        iterate 3 refine Ex.pu ?_
        refine Ex.nil ?_
        refine X.bk (i + 1) (hJ := by
          omega)
      · obtain ⟨q, rfl⟩ : ∃ q, i = (mnsD m l).length + q := ⟨i - (mnsD m l).length, by omega⟩
        have hZ2 := w_pair (m := m) (l := l) n (t := q) (by omega)
        obtain ⟨x, hx, hx0, hx1, hxd⟩ := hZ2
        have hx2 : (wR (kL m l) n (kL m l).length)[(((mnsD m l).length + q : Nat) : Int).toNat]? = some x := by rw [Int.toNat_natCast]; exact hx
        have hst : digP n (prL m l).length ((mnsD m l).length + q - (mnsD m l).length) ++ [1 + x] = digP n (prL m l).length ((mnsD m l).length + q + 1 - (mnsD m l).length) := by
          rw [show (mnsD m l).length + q - (mnsD m l).length = q by omega, show (mnsD m l).length + q + 1 - (mnsD m l).length = q + 1 by omega, hxd]; exact digP_snoc n _ q
        have hs2 : (ofD (mnsD m l) (n / 2 ^ (prL m l).length)).take ((mnsD m l).length + q) = (ofD (mnsD m l) (n / 2 ^ (prL m l).length)).take ((mnsD m l).length + q + 1) := by rw [List.take_of_length_le (by omega), List.take_of_length_le (by omega)]
        have hlen : (digP n (prL m l).length ((mnsD m l).length + q - (mnsD m l).length)).length + [1 + x].length ≤ 2000 := by rw [digP_len, List.length_singleton]; omega
        have hwl := wR_len (kL m l) n (kL m l).length
        refine X.region ?_
        iterate 6 refine Ex.pu ?_
        refine Ex.bs intE [1 + x] ?_
        refine Ex.mo ?_
        refine Ex.pu ?_
        refine Ex.nil ?_
        refine X.region ?_
        iterate 3 refine Ex.pu ?_
        refine Ex.nil ?_
        refine X.bk ((mnsD m l).length + q + 1) (hJ := by
          omega)
    · have hil : i = (kL m l).length := by omega
      subst hil
      have hD2 : (ofD (mnsD m l) (n / 2 ^ (prL m l).length)).take (kL m l).length = iofD m l n := by rw [List.take_of_length_le (by omega)]; exact hD
      have hM2 : digP n (prL m l).length ((kL m l).length - (mnsD m l).length) = iofM m l n := by rw [hkl, Nat.add_sub_cancel_left]; exact hMi
      refine X.exit ?_
      refine X.seq ?_
      refine X.region ?_
      iterate 5 refine Ex.pu ?_
      refine Ex.nil ?_
      refine X.ret ?_
      refine RetQ.imp ((Imp.freeze (k := 101) rfl).trans (Imp.freeze (k := 102) rfl)) ?_
      refine RetQ.ret (.many (by decide) (.cons (.tmp rfl (LeV.eq ?_)) (.cons (.tmp rfl (LeV.eq ?_)) (.cons (.tmp rfl (LeV.eq ?_)) .nil))))
      all_goals (first | exact congrArg intsA hD | exact congrArg intsA hMi | exact congrArg intsA hD2 | exact congrArg intsA hM2 | exact congrArg (AV.int .i64) hE)
theorem C_tactusref13_Rule (m : Mn) (l : List Sg) (hl : l.length ≤ 1000) : Fn Tryz.prog 28 [mnA m, sgsA l] (.tup [intsA (if ckD m l = 0 then ruleD m l else []), intsA (twos (prL m l).length), iv (ckD m l)]) := by
  refine Fn.go Tryz.func28 Tryz.ntmps28 (fun g w d => ?_)
  refine X.seq ?_
  refine X.region ?_
  refine Ex.ba ?_
  iterate 3 refine Ex.pu ?_
  refine Ex.nil ?_
  refine X.seq ?_
  refine X.region ?_
  iterate 2 refine Ex.pu ?_
  refine Ex.ca (C_tactusref09_Rule' m l hl) ?_
  iterate 5 refine Ex.pu ?_
  refine Ex.nil ?_
  refine X.seq ?_
  refine X.seq ?_
  refine X.region ?_
  iterate 2 refine Ex.pu ?_
  refine Ex.nil ?_
  refine X.cd rfl (fun hc1 => ?_) (fun hc1 => ?_)
  · have ht : [] = twos (prL m l).length := by rw [prL_no hc1]; unfold twos; rfl
    have hr : [] = (if ckD m l = 0 then ruleD m l else []) := by rw [if_neg hc1]
    refine X.seq ?_
    refine X.region ?_
    iterate 4 refine Ex.pu ?_
    refine Ex.nil ?_
    refine X.ret ?_
    refine RetQ.imp (Imp.au (ts := [(4, intsA []), (5, intsA []), (6, iv (ckD m l))]) (hs := [])) ?_
    refine RetQ.ret (.many (by decide) (.cons (.tmp rfl (LeV.eq ?_)) (.cons (.tmp rfl (LeV.eq ?_)) (.cons (.tmp rfl (LeV.eq ?_)) .nil))))
    all_goals (first | exact congrArg intsA ht | exact congrArg intsA hr | rfl)
  refine X.skip ?_
  refine X.seq ?_
  refine X.region ?_
  iterate 2 refine Ex.pu ?_
  refine Ex.ca (C_tactusref11_Rule m l hl) ?_
  iterate 5 refine Ex.pu ?_
  refine Ex.nil ?_
  refine X.seq ?_
  refine X.seq ?_
  refine X.region ?_
  iterate 2 refine Ex.pu ?_
  refine Ex.nil ?_
  refine X.cd rfl (fun hc2 => ?_) (fun hc2 => ?_)
  · exact absurd hc1 hc2
  refine X.skip ?_
  refine X.seq ?_
  refine X.region ?_
  iterate 5 refine Ex.pu ?_
  refine Ex.nil ?_
  refine X.ret ?_
  refine RetQ.ret (.many (by decide) (.cons (.tmp rfl (LeV.eq ?_)) (.cons (.tmp rfl (LeV.eq ?_)) (.cons (.tmp rfl (LeV.eq ?_)) .nil))))
  all_goals (first | rfl | exact congrArg (AV.int .i64) hc1.symm)
end Go.Rse
