/-
  Plain: what the map of the pairs holds, and the reference's last write.
  Plain: durations of the notes and rests of a run with pairs.
  Walks: the durations of a run's notes and rests.
-/
import Derived.Test.YtfiiobachmglpaaGreatDoorCColB
import Derived.Test.YtfiiobachmglpaaGreatDoorCLogC
set_option linter.unusedSimpArgs false
set_option linter.unusedVariables false
namespace Go.Rse
open Go Go.Proofs
section
variable {α : Type}
theorem mix_shift {q : Int} : ∀ (l : List (Int × α)) (i : Nat), mix q l i = (mix q l 0).map (fun p => (p.1 + i, p.2))
 | [], i => rfl
 | p :: l, i => by
  unfold mix
  by_cases h : p.1 = q
  ·simp [h]
  ·rw [if_neg h, if_neg h, mix_shift l (i + 1), mix_shift l 1, Option.map_map]
   congr 1; funext x; simp; omega
theorem mget_nil (q : Int) : mget q ([] : List (Int × α)) = none := rfl
theorem mget_cons (q : Int) (p : Int × α) (l : List (Int × α)) : mget q (p :: l) = if p.1 = q then some p.2 else mget q l := by
 have e : mix q (p :: l) 0 = if p.1 = q then some (0, p.2) else mix q l 1 := rfl
 unfold mget
 rw [e]
 by_cases h : p.1 = q
 ·simp [h]
 ·rw [if_neg h, if_neg h, mix_shift l 1, Option.map_map]; rfl
theorem mput_nil (q : Int) (x : α) : mput q x [] = [(q, x)] := rfl
theorem mput_cons (q : Int) (x : α) (p : Int × α) (l : List (Int × α)) : mput q x (p :: l) = if p.1 = q then (q, x) :: l else p :: mput q x l := by
 unfold mput
 by_cases h : p.1 = q
 ·simp [mix, h]
 ·have e : mix q (p :: l) 0 = (mix q l 0).map (fun z => (z.1 + 1, z.2)) := by
   rw [show mix q (p :: l) 0 = mix q l 1 by simp [mix, h], mix_shift l 1]
  rw [e, if_neg h]
  cases mix q l 0 with
  | none => rfl
  | some z => rfl
theorem mget_mput (q q' : Int) (x : α) : ∀ l : List (Int × α), mget q (mput q' x l) = if q' = q then some x else mget q l
 | [] => by rw [mput_nil, mget_cons]
 | p :: l => by
  rw [mput_cons]
  by_cases h : p.1 = q'
  ·rw [if_pos h, mget_cons, mget_cons]
   by_cases h2 : q' = q
   ·simp [h2]
   ·rw [if_neg h2, if_neg h2, if_neg (by rw [h]; exact h2)]
  ·rw [if_neg h, mget_cons, mget_cons, mget_mput q q' x l]
   by_cases h2 : p.1 = q
   ·rw [if_pos h2, if_pos h2, if_neg (by omega)]
   ·rw [if_neg h2, if_neg h2]
end
end Go.Rse
namespace Go.Rse
open Go Go.Proofs
def markK (p mi : List Int) : Nat -> List (Int × Tm)
 | 0 => []
 | k + 1 => if mi[k]? = some 2 then mput (p.getD k 0 + 1) ⟨1, 2⟩ (mput (p.getD k 0) ⟨3, 2⟩ (markK p mi k)) else markK p mi k
theorem getD_of {α : Type} {l : List α} {k : Nat} {x d : α} (h : l[k]? = some x) : l.getD k d = x := by
 rw [List.getD_eq_getElem?_getD, h]; rfl
theorem markK_two {p mi : List Int} {k : Nat} {x y : Int} (hx : p[k]? = some x) (hy : mi[k]? = some y) (h : y = 2) : mput (x + 1) ⟨1, 2⟩ (mput x ⟨3, 2⟩ (markK p mi k)) = markK p mi (k + 1) := by
 conv => rhs; unfold markK
 rw [if_pos (by rw [hy, h]), getD_of hx]
theorem markK_one {p mi : List Int} {k : Nat} {y : Int} (hy : mi[k]? = some y) (h : y = 1) : markK p mi k = markK p mi (k + 1) := by
 conv => rhs; unfold markK
 rw [if_neg (by rw [hy, h]; simp)]
def bsT (m : Mn) (s : Sg) : Tm := if clr s = true then durT m s.Value else fullT m s.Value
theorem bsT_c {m : Mn} {s : Sg} (h : clr s = true) : durT m s.Value = bsT m s := by unfold bsT; rw [if_pos h]
theorem bsT_n {m : Mn} {s : Sg} (h : clr s = false) : fullT m s.Value = bsT m s := by unfold bsT; rw [if_neg (by rw [h]; decide)]
def dvK (m : Mn) (l : List Sg) (M : List (Int × Tm)) : Nat -> List Tm
 | 0 => []
 | k + 1 => match l[k]? with
  | some s => if s.Kind = 3 then dvK m l M k else dvK m l M k ++ [(mget (k : Int) M).getD (bsT m s)]
  | none => dvK m l M k
theorem dvK_dot {m : Mn} {l : List Sg} {M : List (Int × Tm)} {k : Nat} {s : Sg} (hs : l[k]? = some s) (h : s.Kind = 3) : dvK m l M k = dvK m l M (k + 1) := by
 conv => rhs; unfold dvK
 rw [hs]; simp only [if_pos h]
theorem dvK_nr {m : Mn} {l : List Sg} {M : List (Int × Tm)} {k : Nat} {s : Sg} (hs : l[k]? = some s) (h : ¬ s.Kind = 3) : dvK m l M k ++ [(mget (k : Int) M).getD (bsT m s)] = dvK m l M (k + 1) := by
 conv => rhs; unfold dvK
 rw [hs]; simp only [if_neg h]
theorem dvK_len (m : Mn) (l : List Sg) (M : List (Int × Tm)) : ∀ k, (dvK m l M k).length <= k
 | 0 => Nat.le_refl _
 | k + 1 => by
  have := dvK_len m l M k
  unfold dvK
  split
  ·split
   ·omega
   ·simp; omega
  ·omega
theorem get_is {M : List (Int × Tm)} {i : Int} {b z : Tm} (h : (mget i M).isSome = true) : (mget i M).getD z = (mget i M).getD b := by
 cases hm : mget i M with
 | none => rw [hm] at h; simp at h
 | some x => rfl
theorem get_no {M : List (Int × Tm)} {i : Int} {b : Tm} (h : (mget i M).isSome = false) : b = (mget i M).getD b := by
 cases hm : mget i M with
 | none => rfl
 | some x => rw [hm] at h; simp at h
def mnOk (mi : List Int) : Bool := mi.all fun x => decide (x = 1) || decide (x = 2)
def duE (m : Mn) (l : List Sg) (mi : List Int) : Int := if ckD m l = 0 then (if mi.length = (prL m l).length /\ mnOk mi = true then 0 else 2) else ckD m l
def duM (m : Mn) (l : List Sg) (mi : List Int) : List (Int × Tm) := markK (prL m l) mi (prL m l).length
def duV (m : Mn) (l : List Sg) (mi : List Int) : List Tm := if duE m l mi = 0 then dvK m l (duM m l mi) l.length else []
theorem mnOk_bad {mi : List Int} {k : Nat} {y : Int} (hy : mi[k]? = some y) (h1 : ¬ y = 1) (h2 : ¬ y = 2) : mnOk mi = false := by
 cases h : mnOk mi with
 | false => rfl
 | true =>
  unfold mnOk at h
  have := List.all_eq_true.1 h y (List.mem_of_getElem? hy)
  simp [h1, h2] at this
theorem mnOk_all {mi : List Int} (h : ∀ (j : Nat) y, j < mi.length -> mi[j]? = some y -> y = 1 \/ y = 2) : mnOk mi = true := by
 unfold mnOk
 rw [List.all_eq_true]
 intro y hy
 obtain ⟨j, hj⟩ := List.mem_iff_getElem?.1 hy
 have := h j y (List.getElem?_eq_some_iff.1 hj).1 hj
 simp [this]
def mnK (mi : List Int) (k : Nat) : Prop := ∀ (j : Nat) y, j < k -> mi[j]? = some y -> y = 1 \/ y = 2
theorem mnK_0 (mi : List Int) : mnK mi 0 := fun j y h => by omega
theorem mnK_s {mi : List Int} {k : Nat} {y : Int} (h : mnK mi k) (hy : mi[k]? = some y) (hv : y = 1 \/ y = 2) : mnK mi (k + 1) := fun j z hj hz => by
 rcases Nat.lt_or_ge j k with h1 | h1
 ·exact h j z h1 hz
 ·have : j = k := by omega
  subst this; rw [hy] at hz; injection hz with hz; subst hz; exact hv
theorem mnK_ok {mi : List Int} (h : mnK mi mi.length) : mnOk mi = true := mnOk_all fun j y hj hy => h j y hj hy
theorem duE_0 {m : Mn} {l : List Sg} {mi : List Int} (h : ¬ ckD m l = 0) : ckD m l = duE m l mi := by unfold duE; rw [if_neg h]
theorem duE_1 {m : Mn} {l : List Sg} {mi : List Int} (h : ckD m l = 0) (h2 : ¬ mi.length = (prL m l).length) : 2 = duE m l mi := by unfold duE; rw [if_pos h, if_neg (fun e => h2 e.1)]
theorem duE_2 {m : Mn} {l : List Sg} {mi : List Int} (h : ckD m l = 0) (h2 : mnOk mi = false) : 2 = duE m l mi := by unfold duE; rw [if_pos h, if_neg (fun e => by rw [h2] at e; exact absurd e.2 (by decide))]
theorem duE_3 {m : Mn} {l : List Sg} {mi : List Int} (h : ckD m l = 0) (h1 : mi.length = (prL m l).length) (h2 : mnOk mi = true) : 0 = duE m l mi := by unfold duE; rw [if_pos h, if_pos ⟨h1, h2⟩]
theorem duV_n {m : Mn} {l : List Sg} {mi : List Int} {e : Int} (h : e = duE m l mi) (he : ¬ e = 0) : [] = duV m l mi := by unfold duV; rw [if_neg (by rw [← h]; exact he)]
theorem duV_y {m : Mn} {l : List Sg} {mi : List Int} (h : 0 = duE m l mi) : dvK m l (duM m l mi) l.length = duV m l mi := by unfold duV; rw [if_pos h.symm]
theorem ckFrom_val {m : Mn} {l : List Sg} (h : ckD m l = 0) {k : Nat} {s : Sg} (hs : l[k]? = some s) (h3 : ¬ s.Kind = 3) : ckM m = 0 /\ 1 <= s.Value /\ s.Value <= 8 := by
 have hm : ckM m = 0 := by
  unfold ckD at h; split at h
  ·assumption
  ·exact absurd h (by assumption)
 have hf : ckFrom m l 0 l = 0 := by unfold ckD at h; rw [if_pos hm] at h; exact h
 have hk : k < l.length := (List.getElem?_eq_some_iff.1 hs).1
 have hF := (ckFrom_all hf (k + 1) (by omega)).2 k s (by omega) hs
 unfold sgF at hF
 refine ⟨hm, ?_⟩
 split at hF
 ·split at hF
  ·assumption
  ·omega
 ·first | omega | (rw [if_neg h3] at hF; omega) | (split at hF <;> first | omega | contradiction)
theorem pairK_in {m : Mn} {l : List Sg} : ∀ (k : Nat) (x : Int), x ∈ pairK m l k -> 0 <= x /\ x < (k : Int)
 | 0, x, h => by unfold pairK at h; simp at h
 | k + 1, x, h => by
  unfold pairK at h
  split at h
  ·rcases List.mem_append.1 h with h | h
   ·have := pairK_in k x h; omega
   ·simp at h; omega
  ·have := pairK_in k x h; omega
theorem prL_in {m : Mn} {l : List Sg} {k : Nat} {x : Int} (h : (prL m l)[k]? = some x) : 0 <= x /\ x < (l.length : Int) := by
 unfold prL at h
 split at h
 ·unfold pairL at h; exact pairK_in _ x (List.mem_of_getElem? h)
 ·simp at h
end Go.Rse
namespace Go.Rse
open Go Go.Proofs
attribute [local irreducible] Pur StepA StepM Ex X Fn Imp LeV LeB FnO It YStep
theorem map_ok : mpOk Tryz.prog 205 3 60 := ⟨by kernel_rfl, _, Tryz.underlying3⟩
theorem map_int : ∃ d, Tryz.prog.underlying 3 = some (.int d) /\ d = .i64 := ⟨_, Tryz.underlying3, rfl⟩
attribute [local irreducible] pairB pairK pairL isPair ckD prL twos markK dvK mget mput bsT duE duV fullT durT clr
set_option maxHeartbeats 2000000 in
theorem C_color_Durs (m : Mn) (l : List Sg) (mi : List Int) (hl : l.length <= 1000) (hmi : mi.length <= 1000) : Fn Tryz.prog 86 [mnA m, sgsA l, intsA mi] (.tup [tmsA (duV m l mi), iv (duE m l mi)]) := by
 have hpl := prL_len m l
 have hm0 : [] = markK (prL m l) mi 0 := by unfold markK; rfl
 refine Fn.go Tryz.func86 Tryz.ntmps86 (fun g w d => ?_)
 apply X.sr
 refine Ex.ba ?_
 iterate 2 refine Ex.pu ?_
 apply Ex.ns
 iterate 2 refine Ex.pu ?_
 refine Ex.co [(39, 39)] (C_color_Pairs' m l hl) ?_
 iterate 5 refine Ex.pu ?_
 apply Ex.nil
 apply X.seq
 apply X.sr
 iterate 2 refine Ex.pu ?_
 apply Ex.nil
 refine X.cd rfl (fun hc1 => ?_) (fun hc1 => ?_)
 ·have hE := duE_0 (mi := mi) hc1
  have hV := duV_n hE hc1
  apply X.sr
  iterate 3 refine Ex.pu ?_
  apply Ex.nil
  refine X.ret ?_
  refine RetQ.imp (Imp.au (ts := [(6, tmsA []), (7, iv (ckD m l))]) (hs := [])) ?_
  refine RetQ.ret (.many (by decide) (.cons (.tmp rfl (LeV.eq ?_)) (.cons (.tmp rfl (LeV.eq ?_)) .nil)))
  all_goals (first | exact congrArg tmsA hV | exact congrArg (AV.int .i64) hE)
 apply X.skip
 apply X.seq
 apply X.seq
 refine X.imp (Imp.freeze (k := 39) rfl) ?_
 apply X.region
 iterate 5 refine Ex.pu ?_
 apply Ex.nil
 refine X.cd rfl (fun hc2 => ?_) (fun hc2 => ?_)
 ·have hE := duE_1 (mi := mi) hc1 (by omega)
  have hV := duV_n hE (by decide)
  apply X.sr
  iterate 2 refine Ex.pu ?_
  apply Ex.nil
  refine X.ret ?_
  refine RetQ.imp (Imp.au (ts := [(6, tmsA []), (7, iv 2)]) (hs := [])) ?_
  refine RetQ.ret (.many (by decide) (.cons (.tmp rfl (LeV.eq ?_)) (.cons (.tmp rfl (LeV.eq ?_)) .nil)))
  all_goals (first | exact congrArg tmsA hV | exact congrArg (AV.int .i64) hE)
 apply X.skip
 apply X.sr
 refine Ex.stepA (A_makeMap (k := 32) (fun i : Int => iv i) tmA) rfl rfl ?_
 refine Ex.pu ?_
 apply Ex.nil
 apply X.seq
 apply X.sr
 iterate 3 refine Ex.pu ?_
 apply Ex.nil
 apply X.block
 refine X.lp (ι := Nat) (fun (k : Nat) => [(1, sgsA l), (2, intsA mi), (3, .ptr 3 0 0 0), (10, .mp 32), (33, intsA (prL m l)), (34, iv (prL m l).length), (35, iv (k : Int))]) (fun (k : Nat) => [(3, .box (mnE m) 23), (32, .mpb (fun i : Int => iv i) tmA (markK (prL m l) mi k))]) (fun (k : Nat) => k <= (prL m l).length /\ mnK mi k) (fun (k : Nat) => (prL m l).length - k) 0 (fun k hk => ?_) (hJ := by
  exact ⟨by omega, mnK_0 mi⟩) (h0 := by
  exact Imp.ax)
 obtain ⟨hk1, hk2⟩ := hk
 apply X.sr
 refine Ex.pu ?_
 apply Ex.nil
 apply X.seq
 refine X.cd rfl (fun hc3 => ?_) (fun hc3 => ?_)
 ·obtain ⟨x, hx⟩ : ∃ x, (prL m l)[k]? = some x := ⟨_, List.getElem?_eq_getElem (by omega)⟩
  have hx2 : (prL m l)[(k : Int).toNat]? = some x := by simpa using hx
  have hxb := prL_in hx
  obtain ⟨y, hy⟩ : ∃ y, mi[k]? = some y := ⟨_, List.getElem?_eq_getElem (by omega)⟩
  have hy2 : mi[(k : Int).toNat]? = some y := by simpa using hy
  apply X.skip
  apply X.seq
  apply X.block
  apply X.sr
  iterate 5 refine Ex.pu ?_
  apply Ex.ns
  iterate 4 refine Ex.pu ?_
  apply Ex.nil
  apply X.block
  apply X.sr
  iterate 2 refine Ex.pu ?_
  apply Ex.nil
  refine X.cd rfl (fun hc4 => ?_) (fun hc4 => ?_)
  ·have hst := markK_one (p := prL m l) hy hc4
   apply X.skip
   apply X.region
   iterate 2 refine Ex.pu ?_
   apply Ex.nil
   refine X.bk (k + 1) (hJ := by
    exact ⟨by omega, mnK_s hk2 hy (by omega)⟩) (hI := Imp.ax)
  ·apply X.sr
   iterate 2 refine Ex.pu ?_
   apply Ex.nil
   refine X.cd rfl (fun hc5 => ?_) (fun hc5 => ?_)
   ·have hst := markK_two hx hy hc5
    apply X.region
    iterate 7 refine Ex.pu ?_
    refine Ex.stepM (M_mapUpdate (venc := tmA) ⟨3, 2⟩ rfl rfl rfl rfl rfl map_ok map_int (fun _ _ => rfl)) ?_
    refine Ex.stepM (M_mapUpdate (venc := tmA) ⟨1, 2⟩ rfl rfl rfl rfl rfl map_ok map_int (fun _ _ => rfl)) ?_
    apply Ex.nil
    apply X.region
    iterate 2 refine Ex.pu ?_
    apply Ex.nil
    refine X.bk (k + 1) (hJ := by
     exact ⟨by omega, mnK_s hk2 hy (by omega)⟩) (hI := Imp.ax)
   ·have hE := duE_2 hc1 (mnOk_bad hy hc4 hc5)
    have hV := duV_n hE (by decide)
    apply X.sr
    iterate 2 refine Ex.pu ?_
    apply Ex.nil
    refine X.ret ?_
    refine RetQ.imp (Imp.au (ts := [(6, tmsA []), (7, iv 2)]) (hs := [])) ?_
    refine RetQ.ret (.many (by decide) (.cons (.tmp rfl (LeV.eq ?_)) (.cons (.tmp rfl (LeV.eq ?_)) .nil)))
    all_goals (first | exact congrArg tmsA hV | exact congrArg (AV.int .i64) hE)
 ·have hkl : k = (prL m l).length := by omega
  subst hkl
  have hok : mnOk mi = true := mnK_ok (by rw [show mi.length = (prL m l).length by omega]; exact hk2)
  have hE := duE_3 hc1 (by omega) hok
  have hV := duV_y hE
  have hd0 : [] = dvK m l (duM m l mi) 0 := by unfold dvK; rfl
  apply X.exit
  apply X.sr
  refine Ex.pu ?_
  apply Ex.nil
  apply X.seq
  apply X.seq
  refine X.imp (Imp.mkrow tmE 60 2 13 13 rfl rfl) ?_
  apply X.region
  iterate 3 refine Ex.pu ?_
  apply Ex.nil
  apply X.block
  refine X.lp (ι := Nat) (fun (k : Nat) => [(3, .ptr 3 0 0 0), (10, .mp 32), (13, .own 13), (56, sgsA l), (57, iv l.length), (58, iv (k : Int))]) (fun (k : Nat) => [(3, .box (mnE m) 23), (32, .mpb (fun i : Int => iv i) tmA (duM m l mi)), (13, .row tmE (dvK m l (duM m l mi) k) 60 2)]) (fun (k : Nat) => k <= l.length) (fun (k : Nat) => l.length - k) 0 (fun k hk => ?_) (h0 := by
   exact Imp.ax)
  apply X.sr
  refine Ex.pu ?_
  apply Ex.nil
  apply X.seq
  refine X.cd rfl (fun hc6 => ?_) (fun hc6 => ?_)
  ·obtain ⟨s, hs⟩ : ∃ s, l[k]? = some s := ⟨_, List.getElem?_eq_getElem (by omega)⟩
   have hs2 : l[(k : Int).toNat]? = some s := by simpa using hs
   have hlen := dvK_len m l (duM m l mi) k
   apply X.skip
   apply X.seq
   apply X.block
   apply X.sr
   iterate 3 refine Ex.pu ?_
   refine Ex.al ?_
   refine Ex.pu ?_
   refine Ex.mo ?_
   apply Ex.ns
   iterate 2 refine Ex.pu ?_
   refine Ex.pu (hs := P_lookup (venc := tmA) tmZ rfl rfl rfl map_ok map_int (fun _ _ => rfl) (tmZ_zero ze60)) ?_
   iterate 3 refine Ex.pu ?_
   refine Ex.al ?_
   refine Ex.mo ?_
   refine Ex.pu ?_
   apply Ex.nil
   apply X.seq
   apply X.block
   apply X.sr
   iterate 4 refine Ex.pu ?_
   apply Ex.nil
   refine X.cd rfl (fun hc7 => ?_) (fun hc7 => ?_)
   ·have hrow := dvK_dot (m := m) (M := duM m l mi) hs hc7
    apply X.exit
    apply X.region
    iterate 2 refine Ex.pu ?_
    apply Ex.nil
    refine X.bk (k + 1) (hI := Imp.ax)
   have hval := ckFrom_val hc1 hs hc7
   have hrow := dvK_nr (m := m) (M := duM m l mi) hs hc7
   apply X.sr
   iterate 2 refine Ex.pu ?_
   apply Ex.nil
   refine X.cd rfl (fun hc8 => ?_) (fun hc8 => ?_)
   ·rw [← get_is (z := tmZ) hc8] at hrow
    apply X.skip
    apply X.region
    iterate 2 refine Ex.pu ?_
    refine Ex.bs tmE [⟨_, _⟩] ?_
    refine Ex.mo ?_
    refine Ex.pu ?_
    apply Ex.nil
    apply X.region
    iterate 2 refine Ex.pu ?_
    apply Ex.nil
    refine X.bk (k + 1) (hI := Imp.ax)
   ·apply X.sr
    refine Ex.pu ?_
    refine Ex.ca (C_color_colored _) ?_
    refine Ex.pu ?_
    apply Ex.nil
    refine X.cd rfl (fun hc9 => ?_) (fun hc9 => ?_)
    ·rw [← get_no hc8, ← bsT_c hc9] at hrow
     apply X.region
     iterate 3 refine Ex.pu ?_
     refine Ex.ca (C_color_dur m hval.1 s.Value hval.2.1 hval.2.2) ?_
     refine Ex.mo ?_
     apply Ex.nil
     apply X.region
     iterate 2 refine Ex.pu ?_
     refine Ex.bs tmE [⟨_, _⟩] ?_
     refine Ex.mo ?_
     refine Ex.pu ?_
     apply Ex.nil
     apply X.region
     iterate 2 refine Ex.pu ?_
     apply Ex.nil
     refine X.bk (k + 1) (hI := Imp.ax)
    ·rw [← get_no hc8, ← bsT_n hc9] at hrow
     apply X.region
     iterate 3 refine Ex.pu ?_
     refine Ex.ca (C_mens_FullV hval.1 hval.2.1 hval.2.2) ?_
     iterate 3 refine Ex.pu ?_
     refine Ex.mo ?_
     apply Ex.nil
     apply X.region
     iterate 2 refine Ex.pu ?_
     refine Ex.bs tmE [⟨_, _⟩] ?_
     refine Ex.mo ?_
     refine Ex.pu ?_
     apply Ex.nil
     apply X.region
     iterate 2 refine Ex.pu ?_
     apply Ex.nil
     refine X.bk (k + 1) (hI := Imp.ax)
  ·have hkl2 : k = l.length := by omega
   subst hkl2
   apply X.exit
   apply X.sr
   iterate 3 refine Ex.pu ?_
   apply Ex.nil
   refine X.ret ?_
   refine RetQ.imp (Imp.freeze (k := 13) rfl) ?_
   refine RetQ.ret (.many (by decide) (.cons (.tmp rfl (LeV.eq ?_)) (.cons (.tmp rfl (LeV.eq ?_)) .nil)))
   all_goals (first | exact congrArg tmsA hV | exact congrArg (AV.int .i64) hE)
end Go.Rse
