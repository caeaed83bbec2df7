/-
  Plain: other places; runs under a mensuration without a 3.
-/
import Derived.Test.YtfiiobachmglpaaGreatDoorCJLaw18a
import Derived.Test.YtfiiobachmglpaaGreatDoorCJItem2
import Derived.Test.YtfiiobachmglpaaGreatDoorCJItfA
set_option linter.unusedSimpArgs false
set_option linter.unusedVariables false
namespace Go.Rse
open Go Go.Proofs
def plF1 (o : List Int) (k : Nat) (s : Sg) : Sg := { s with Place := atV o (k : Int) % 9 }
def plF (o : List Int) (k : Nat) (s : Sg) : Sg := { s with Place := atV o (k : Int) % 9, Acc := (k : Int) % 4 - 1 }
def plJ (o : List Int) (l : List Sg) (k : Nat) : List Sg := l.mapIdx fun i s => if i < k then plF o i s else s
theorem plJ_0 (o : List Int) (l : List Sg) : l = plJ o l 0 := by
 unfold plJ
 apply List.ext_getElem?
 intro i
 rw [List.getElem?_mapIdx]
 cases l[i]? <;> simp
theorem plJ_len (o : List Int) (l : List Sg) (k : Nat) : (plJ o l k).length = l.length := by unfold plJ; simp
theorem plJ_at {o : List Int} {l : List Sg} {k : Nat} {s : Sg} (h : l[k]? = some s) : (plJ o l k)[k]? = some s := by
 unfold plJ; rw [List.getElem?_mapIdx, h]; simp
theorem plJ_set {o : List Int} {l : List Sg} {k : Nat} {s : Sg} (h : l[k]? = some s) : ((plJ o l k).set k (plF1 o k s)).set k (plF o k s) = plJ o l (k + 1) := by
 rw [List.set_set]
 apply List.ext_getElem?
 intro i
 rw [List.getElem?_set, plJ_len]
 unfold plJ
 rw [List.getElem?_mapIdx, List.getElem?_mapIdx]
 have hk := (List.getElem?_eq_some_iff.1 h).1
 by_cases e : k = i
 ·subst e
  rw [if_pos rfl, if_pos hk, h]; simp
 ·rw [if_neg e]
  cases hi : l[i]? with
  | none => rfl
  | some t =>
   simp only [Option.map_some]
   by_cases hlt : i < k
   ·rw [if_pos hlt, if_pos (by omega)]
   ·rw [if_neg hlt, if_neg (by omega)]
theorem plJ_nrm (o : List Int) (l : List Sg) (k : Nat) : (plJ o l k).map nrm = l.map nrm := by
 apply List.ext_getElem?
 intro i
 rw [List.getElem?_map, List.getElem?_map]
 unfold plJ
 rw [List.getElem?_mapIdx]
 cases l[i]? with
 | none => rfl
 | some s => simp only [Option.map_some]; split <;> rfl
def siF (s : Sg) : Sg := { s with Value := 4 }
def siG (s : Sg) : Sg := if s.Color = true /\ s.Value = 5 then siF s else s
def siJ (l : List Sg) (k : Nat) : List Sg := l.mapIdx fun i s => if i < k then siG s else s
theorem siJ_0 (l : List Sg) : l = siJ l 0 := by
 unfold siJ
 apply List.ext_getElem?
 intro i
 rw [List.getElem?_mapIdx]
 cases l[i]? <;> simp
theorem siJ_len (l : List Sg) (k : Nat) : (siJ l k).length = l.length := by unfold siJ; simp
theorem siJ_at {l : List Sg} {k : Nat} {s : Sg} (h : l[k]? = some s) : (siJ l k)[k]? = some s := by
 unfold siJ; rw [List.getElem?_mapIdx, h]; simp
theorem siJ_s {l : List Sg} {k : Nat} {s : Sg} (h : l[k]? = some s) : (siJ l k).set k (siG s) = siJ l (k + 1) := by
 apply List.ext_getElem?
 intro i
 rw [List.getElem?_set, siJ_len]
 unfold siJ
 rw [List.getElem?_mapIdx, List.getElem?_mapIdx]
 have hk := (List.getElem?_eq_some_iff.1 h).1
 by_cases e : k = i
 ·subst e
  rw [if_pos rfl, if_pos hk, h]; simp
 ·rw [if_neg e]
  cases hi : l[i]? with
  | none => rfl
  | some t =>
   simp only [Option.map_some]
   by_cases hlt : i < k
   ·rw [if_pos hlt, if_pos (by omega)]
   ·rw [if_neg hlt, if_neg (by omega)]
theorem siJ_yes {l : List Sg} {k : Nat} {s : Sg} (h : l[k]? = some s) (hc : s.Color = true /\ s.Value = 5) : (siJ l k).set k (siF s) = siJ l (k + 1) := by
 have := siJ_s h
 rwa [show siG s = siF s by unfold siG; rw [if_pos hc]] at this
theorem siJ_no {l : List Sg} {k : Nat} {s : Sg} (h : l[k]? = some s) (hc : ¬ (s.Color = true /\ s.Value = 5)) : siJ l k = siJ l (k + 1) := by
 have := siJ_s h
 rw [show siG s = s by unfold siG; rw [if_neg hc]] at this
 rw [← this]
 apply List.ext_getElem?
 intro i
 rw [List.getElem?_set]
 by_cases e : k = i
 ·subst e
  rw [if_pos rfl, siJ_at h]
  split
  ·rfl
  ·rename_i hn; exact absurd (by rw [siJ_len]; exact (List.getElem?_eq_some_iff.1 h).1) hn
 ·rw [if_neg e]
theorem siJ_end {l : List Sg} {i : Nat} {t : Sg} (h : (siJ l l.length)[i]? = some t) : ∃ s, l[i]? = some s /\ t = siG s := by
 unfold siJ at h
 rw [List.getElem?_mapIdx] at h
 cases hs : l[i]? with
 | none => rw [hs] at h; cases h
 | some s =>
  rw [hs] at h
  have := (List.getElem?_eq_some_iff.1 hs).1
  simp only [Option.map_some, if_pos this] at h
  injection h with h
  exact ⟨s, rfl, h.symm⟩
theorem siG_kind (s : Sg) : (siG s).Kind = s.Kind /\ (siG s).Color = s.Color /\ ((siG s).Value = s.Value \/ (siG s).Value = 4) /\ ¬ ((siG s).Color = true /\ (siG s).Value = 5) := by
 unfold siG
 split
 ·exact ⟨rfl, rfl, .inr rfl, fun h => absurd (show (4 : Int) = 5 from h.2) (by decide)⟩
 ·rename_i h; exact ⟨rfl, rfl, .inl rfl, h⟩
abbrev mH : Mn := ⟨2, 2, 2, 2⟩
theorem abv_half (v : Int) : abvK mH v = false := abvK_no fun k h1 h2 h3 => by
 rcases Int.lt_or_le 4 k with h | h
 ·rw [p_big h] at h3; omega
 ·have : k = 1 \/ k = 2 \/ k = 3 \/ k = 4 := by omega
  rcases this with rfl | rfl | rfl | rfl <;> exact absurd h3 (by decide)
theorem aV_half (v : Int) : mH.aV v = 0 := by
 unfold Mn.aV
 split
 ·unfold Mn.ab
  rw [show perfL mH = [] by decide]; rfl
 ·rfl
theorem pV_half (v : Int) : ¬ mH.pV v = 3 := by
 unfold Mn.pV
 split
 ·intro h
  rcases Int.lt_or_le 4 v with h2 | h2
  ·rw [p_big h2] at h; omega
  ·rcases Int.lt_or_le v 1 with h1 | h1
   ·rename_i hc
    unfold ckMV at hc
    revert hc; split
    ·split
     ·omega
     ·intro hc; cases hc
    ·intro hc; exact absurd hc (by decide)
   ·have : v = 1 \/ v = 2 \/ v = 3 \/ v = 4 := by omega
    rcases this with rfl | rfl | rfl | rfl <;> exact absurd h (by decide)
 ·intro h; cases h
theorem si_gr {l : List Sg} (h : Gr mH l) : Gr mH (siJ l l.length) := fun i t ht => by
 obtain ⟨s, hs, rfl⟩ := siJ_end ht
 obtain ⟨k1, k2, k3, -⟩ := siG_kind s
 rcases h i s hs with ⟨a, b, c⟩ | ⟨a, j, p, rfl, hp, hq⟩
 ·exact .inl ⟨by rw [k1]; exact a, by rcases k3 with e | e <;> omega, by rcases k3 with e | e <;> omega⟩
 ·refine .inr ⟨by rw [k1]; exact a, j, siG p, rfl, ?_, ?_⟩
  ·unfold siJ
   rw [List.getElem?_mapIdx, hp]
   simp only [Option.map_some]
   rw [if_pos (List.getElem?_eq_some_iff.1 hp).1]
  ·rcases hq with hq | ⟨q1, q2, q3, q4⟩
   ·exact .inl (by rw [(siG_kind p).1]; exact hq)
   ·rw [abv_half] at q4; cases q4
theorem cntK_one : ∀ (L : List Int), (∀ x ∈ L, x = 1) -> cntK 1 L = 1
 | [], _ => rfl
 | x :: r, h => by
  have hx := h x (by simp)
  subst hx
  have ih := cntK_one r fun y hy => h y (List.mem_cons_of_mem _ hy)
  unfold cntK
  simpa using ih
theorem si_ict {l : List Sg} (h : Gr mH l) : ictE mH (siJ l l.length) = 0 /\ ictV mH (siJ l l.length) = 1 := by
 have hG := si_gr h
 have hck := gr_ck (m := mH) (by decide) hG
 have hp : prL mH (siJ l l.length) = [] := by
  refine List.eq_nil_iff_forall_not_mem.2 fun x hx => ?_
  have hm := prL_mem hx
  have hf := isPair_fact hm.1
  obtain ⟨t, ht⟩ : ∃ t, (siJ l l.length)[(x + 1).toNat]? = some t := ⟨_, List.getElem?_eq_getElem (by omega)⟩
  rw [getD_of ht] at hf
  obtain ⟨s, hs, rfl⟩ := siJ_end ht
  have hc := hf.2.2.2.1
  unfold clr at hc
  simp only [Bool.and_eq_true, decide_eq_true_eq] at hc
  exact (siG_kind s).2.2.2 ⟨hc.2, hf.2.2.2.2⟩
 have hmn : ∀ x ∈ mnsD mH (siJ l l.length), x.length = 1 := by
  intro x hx
  unfold mnsD at hx
  obtain ⟨i, hi, rfl⟩ := List.mem_map.1 hx
  obtain ⟨j, s, p, rfl, hs, h3, hpp, hps⟩ := dotPrev hck hi
  unfold mnAt
  rw [hps]
  show (mngs mH p).length = 1
  have hne : ¬ p.Kind = 2 := by
   rcases hG (j + 1) s hs with ⟨a, _⟩ | ⟨_, j', p', e, hp', hq⟩
   ·omega
   ·have : j' = j := by omega
    subst this
    rw [hpp] at hp'; injection hp' with hp'; subst hp'
    rcases hq with hq | ⟨_, _, _, q4⟩
    ·omega
    ·rw [abv_half] at q4; cases q4
  unfold mngs
  rw [if_neg hne]
  split
  ·rfl
  ·rw [if_neg (pV_half _), aV_half, coll_one]; rfl
 have hk : ∀ x ∈ kL mH (siJ l l.length), x = 1 := by
  intro x hx
  unfold kL at hx
  rw [hp] at hx
  rcases List.mem_append.1 hx with hx | hx
  ·obtain ⟨y, hy, rfl⟩ := List.mem_map.1 hx
   rw [hmn y hy]; rfl
  ·simp [twos] at hx
 obtain ⟨e1, e2⟩ := ict_lo hck (cntK_one _ hk) (by decide)
 exact ⟨e1.symm, e2.symm⟩
theorem si_one {l : List Sg} (h : Gr mH l) : aqE mH (siJ l l.length) = 0 /\ (aqV mH (siJ l l.length)).length = 1 := by
 obtain ⟨h1, h2⟩ := si_ict h
 have hc : ∀ n : Int, cmE mH (siJ l l.length) n = 0 /\ (cmV mH (siJ l l.length) n).length = 1 := by
  intro n
  have e : cmR mH (siJ l l.length) n = ([⟨cmI mH (siJ l l.length) n, [], []⟩], 0) := by
   unfold cmR; rw [show perfL mH = [] by decide]; rfl
  have e2 : cmE mH (siJ l l.length) n = 0 := by unfold cmE; rw [e]
  refine ⟨e2, ?_⟩
  unfold cmV; rw [e2, if_pos rfl, e]; rfl
 have hN : aqN mH (siJ l l.length) (ictV mH (siJ l l.length)).toNat = cmV mH (siJ l l.length) 0 := by
  rw [h2]; show [] ++ cmV mH (siJ l l.length) ((0 : Nat) : Int) = _; rfl
 have hX : aqX mH (siJ l l.length) (ictV mH (siJ l l.length)).toNat = true := by
  rw [h2]
  show (true && decide (cmE mH (siJ l l.length) ((0 : Nat) : Int) = 0) && decide ((aqN mH (siJ l l.length) 1).length <= 4096)) = true
  rw [h2] at hN
  rw [(hc _).1, show aqN mH (siJ l l.length) 1 = cmV mH (siJ l l.length) 0 from hN, (hc 0).2]; rfl
 have hE : aqE mH (siJ l l.length) = 0 := by
  unfold aqE; rw [if_pos h1, if_pos hX, if_neg (by rw [hN, (hc 0).2]; decide)]
 refine ⟨hE, ?_⟩
 unfold aqV; rw [if_pos hE, hN]; exact (hc 0).2
end Go.Rse
namespace Go.Rse
open Go Go.Proofs
attribute [local irreducible] Pur StepA StepM Ex X Fn Imp LeV LeB FnO It YStep
attribute [local irreducible] abvK rnK rnV rnS
theorem C_tactuskit_above (m : Mn) (v : Int) (h8 : v <= 1000000) : Fn Tryz.prog 77 [mnA m, iv v] (.bool (abvK m v)) := by
 refine Fn.go Tryz.func77 Tryz.ntmps77 (fun g w d => ?_)
 apply X.sr
 refine Ex.ba ?_
 refine Ex.pu ?_
 apply Ex.nil
 apply X.seq
 apply X.sr
 refine Ex.pu ?_
 apply Ex.nil
 apply X.block
 refine X.lp (ι := Nat) (fun (k : Nat) => [(1, iv v), (2, .ptr 2 0 0 0), (5, iv (1 + (k : Int)))]) (fun (k : Nat) => [(2, .box (mnE m) 23)]) (fun (k : Nat) => (k : Int) <= 1000000 /\ ∀ u, 1 <= u -> u < 1 + (k : Int) -> ¬ m.p u = 3) (fun (k : Nat) => v.toNat - k) 0 (fun k hk => ?_) (hJ := by
  exact ⟨by omega, fun u h1 h2 => by omega⟩)
 obtain ⟨hk1, hk2⟩ := hk
 apply X.seq
 apply X.sr
 iterate 3 refine Ex.pu ?_
 apply Ex.nil
 refine X.cd rfl (fun hc1 => ?_) (fun hc1 => ?_)
 ·apply X.skip
  apply X.seq
  apply X.block
  apply X.sr
  iterate 2 refine Ex.pu ?_
  refine Ex.ca (C_tactuskit_Parts m (1 + (k : Int))) ?_
  refine Ex.pu ?_
  apply Ex.nil
  refine X.cd rfl (fun hc2 => ?_) (fun hc2 => ?_)
  ·apply X.sr
   refine Ex.pu ?_
   apply Ex.nil
   refine X.ret ?_
   refine RetQ.ret (.one (.tmp rfl (LeV.eq ?_)))
   all_goals (congr 1; exact (abvK_yes (by omega) hc1 hc2).symm)
  apply X.skip
  apply X.region
  iterate 3 refine Ex.pu ?_
  apply Ex.nil
  refine X.bk (k + 1) (hJ := by
   refine ⟨by omega, fun u h1 h2 => ?_⟩
   by_cases e : u = 1 + (k : Int)
   ·rw [e]; exact hc2
   ·exact hk2 u h1 (by omega))
 ·apply X.exit
  apply X.sr
  refine Ex.pu ?_
  apply Ex.nil
  refine X.ret ?_
  refine RetQ.ret (.one (.tmp rfl (LeV.eq ?_)))
  all_goals (congr 1; exact (abvK_no fun u h1 h2 => hk2 u h1 (by omega)).symm)
set_option maxHeartbeats 2000000 in
theorem C_tactuskit_Run (m : Mn) (nums : List Int) (most : Int) (h0 : 0 <= most) (h1 : most <= 1000) (hr : ∀ x, x ∈ nums -> -9223372036854775808 <= x /\ x <= 9223372036854775807) (hnl : nums.length <= maxLen) : Fn Tryz.prog 25 [mnA m, intsA nums, iv most] (sgsA (rnL m nums most)) := by
 have hnl2 : nums.length <= 9223372036854775807 := hnl
 have hq0 : [] = rnK m nums most 0 := by unfold rnK; rfl
 refine Fn.go Tryz.func25 Tryz.ntmps25 (fun g w d => ?_)
 apply X.sr
 refine Ex.ba ?_
 refine Ex.pu ?_
 apply Ex.nil
 apply X.sr
 refine Ex.bs intE [3, 4, 4, 5, 5, 3, 2, 6] ?_
 refine Ex.pu ?_
 apply Ex.nil
 apply X.seq
 refine X.imp (Imp.freeze (k := 13) rfl) ?_
 apply X.region
 refine Ex.pu ?_
 apply Ex.nil
 apply X.seq
 apply X.seq
 refine X.imp (Imp.mkrow sgE 67 17 8 8 rfl rfl) ?_
 apply X.region
 refine Ex.pu ?_
 apply Ex.nil
 apply X.block
 refine X.lp (ι := Nat) (fun (k : Nat) => [(1, intsA nums), (2, iv most), (3, .ptr 3 0 0 0), (7, intsA [3, 4, 4, 5, 5, 3, 2, 6]), (8, .own 8), (9, iv (k : Int))]) (fun (k : Nat) => [(3, .box (mnE m) 23), (8, .row sgE (rnK m nums most k) 67 17)]) (fun (k : Nat) => k <= nums.length) (fun (k : Nat) => nums.length - k) 0 (fun k hk => ?_) (h0 := by
  exact Imp.ax)
 apply X.seq
 apply X.sr
 iterate 4 refine Ex.pu ?_
 refine ExF.at 4 ?_
 refine ExF.pu ?_
 iterate 4 refine ExF.gi ?_
 refine ExF.done ?_
 refine Ex.pu ?_
 apply Ex.nil
 refine X.cd rfl (fun hc1 => ?_) (fun hc1 => ?_)
 ·obtain ⟨x, hx⟩ : ∃ x, nums[k]? = some x := ⟨_, List.getElem?_eq_getElem (by omega)⟩
  have hx2 : nums[(k : Int).toNat]? = some x := by simpa using hx
  have hxr := hr x (List.mem_of_getElem? hx)
  have h504 : 0 <= x % 504 /\ x % 504 < 504 := by omega
  have hml := rnK_len m nums h0 k
  have hv := rnV_get (x % 504)
  have hvr := rnV_rng (x % 504)
  apply X.skip
  apply X.seq
  apply X.block
  apply X.sr
  iterate 4 refine Ex.pu ?_
  refine Ex.ca (C_tactuskit_Mod x 504 hxr (by omega)) ?_
  refine Ex.pu ?_
  apply Ex.nil
  apply X.sr
  iterate 8 refine Ex.pu ?_
  refine Ex.al ?_
  refine Ex.mo ?_
  apply Ex.nil
  apply X.seq
  apply X.sr
  iterate 3 refine Ex.pu ?_
  apply Ex.nil
  apply X.block
  apply X.sr
  iterate 2 refine Ex.pu ?_
  apply Ex.nil
  refine X.cd rfl (fun hc2 => ?_) (fun hc2 => ?_)
  ·have hS : rnS k (x % 504) = ⟨2, rnV (x % 504), 0, 0, false, 0, false, false, ⟨0, 0, 0, 0⟩, false, 0, 0, 0, 0⟩ := by unfold rnS; rw [if_pos hc2]
   apply X.region
   iterate 3 refine Ex.pu ?_
   refine Ex.mo ?_
   apply Ex.nil
   apply X.sr
   iterate 2 refine Ex.pu ?_
   refine Ex.bs sgE [⟨2, rnV (x % 504), 0, 0, false, 0, false, false, ⟨0, 0, 0, 0⟩, false, 0, 0, 0, 0⟩] ?_
   refine Ex.mo ?_
   refine Ex.pu ?_
   apply Ex.nil
   apply X.sr
   iterate 3 refine Ex.pu ?_
   refine ExF.at 3 ?_
   refine ExF.pu ?_
   iterate 4 refine ExF.gi ?_
   refine ExF.done ?_
   iterate 2 refine Ex.pu ?_
   apply Ex.nil
   apply X.sr
   refine Ex.pu ?_
   refine ExF.at 1 ?_
   refine ExF.pu ?_
   iterate 7 refine ExF.gi ?_
   refine ExF.cg (C_tactuskit_above m (rnV (x % 504)) (by omega)) ?_
   refine ExF.gi ?_
   refine ExF.done ?_
   refine Ex.pu ?_
   apply Ex.nil
   refine X.cd rfl (fun hc3 => ?_) (fun hc3 => ?_)
   ·have hrow := rnK_dotI hS hx hc1.2 hc3
    apply X.region
    iterate 2 refine Ex.pu ?_
    refine Ex.bs sgE [sgDot] ?_
    refine Ex.mo ?_
    refine Ex.pu ?_
    apply Ex.nil
    apply X.region
    iterate 3 refine Ex.pu ?_
    apply Ex.nil
    refine X.bk (k + 1) (hI := Imp.ax)
   ·have hrow := rnK_sgnI hS hx hc1.2 hc3
    apply X.skip
    apply X.region
    iterate 3 refine Ex.pu ?_
    apply Ex.nil
    refine X.bk (k + 1) (hI := Imp.ax)
  ·apply X.seq
   apply X.sr
   iterate 2 refine Ex.pu ?_
   apply Ex.nil
   refine X.cd rfl (fun hc4 => ?_) (fun hc4 => ?_)
   ·apply X.skip
    refine X.cd rfl (fun hc5 => ?_) (fun hc5 => ?_)
    ·have hS : rnS k (x % 504) = ⟨1, rnV (x % 504), (k : Int) % 9, 0, true, 0, false, false, ⟨0, 0, 0, 0⟩, false, 0, 0, 0, 0⟩ := by unfold rnS; rw [if_neg hc2, hc4]; rfl
     apply X.region
     refine Ex.pu ?_
     refine Ex.mo ?_
     apply Ex.nil
     apply X.sr
     iterate 2 refine Ex.pu ?_
     refine Ex.bs sgE [⟨1, rnV (x % 504), (k : Int) % 9, 0, true, 0, false, false, ⟨0, 0, 0, 0⟩, false, 0, 0, 0, 0⟩] ?_
     refine Ex.mo ?_
     refine Ex.pu ?_
     apply Ex.nil
     apply X.sr
     iterate 3 refine Ex.pu ?_
     refine ExF.at 3 ?_
     refine ExF.pu ?_
     iterate 4 refine ExF.gi ?_
     refine ExF.done ?_
     iterate 2 refine Ex.pu ?_
     apply Ex.nil
     apply X.sr
     refine Ex.pu ?_
     refine ExF.at 1 ?_
     refine ExF.pu ?_
     iterate 7 refine ExF.gi ?_
     refine ExF.cg (C_tactuskit_above m (rnV (x % 504)) (by omega)) ?_
     refine ExF.gi ?_
     refine ExF.done ?_
     refine Ex.pu ?_
     apply Ex.nil
     refine X.cd rfl (fun hc6 => ?_) (fun hc6 => ?_)
     ·have hrow := rnK_dotI hS hx hc1.2 hc6
      apply X.region
      iterate 2 refine Ex.pu ?_
      refine Ex.bs sgE [sgDot] ?_
      refine Ex.mo ?_
      refine Ex.pu ?_
      apply Ex.nil
      apply X.region
      iterate 3 refine Ex.pu ?_
      apply Ex.nil
      refine X.bk (k + 1) (hI := Imp.ax)
     ·have hrow := rnK_sgnI hS hx hc1.2 hc6
      apply X.skip
      apply X.region
      iterate 3 refine Ex.pu ?_
      apply Ex.nil
      refine X.bk (k + 1) (hI := Imp.ax)
    ·omega
   ·apply X.region
    iterate 2 refine Ex.pu ?_
    apply Ex.nil
    refine X.cd rfl (fun hc7 => ?_) (fun hc7 => ?_)
    ·have hS : rnS k (x % 504) = ⟨1, rnV (x % 504), (k : Int) % 9, 0, true, 0, false, false, ⟨0, 0, 0, 0⟩, false, 0, 0, 0, 0⟩ := by unfold rnS; rw [if_neg hc2, hc7]; rfl
     apply X.region
     refine Ex.pu ?_
     refine Ex.mo ?_
     apply Ex.nil
     apply X.sr
     iterate 2 refine Ex.pu ?_
     refine Ex.bs sgE [⟨1, rnV (x % 504), (k : Int) % 9, 0, true, 0, false, false, ⟨0, 0, 0, 0⟩, false, 0, 0, 0, 0⟩] ?_
     refine Ex.mo ?_
     refine Ex.pu ?_
     apply Ex.nil
     apply X.sr
     iterate 3 refine Ex.pu ?_
     refine ExF.at 3 ?_
     refine ExF.pu ?_
     iterate 4 refine ExF.gi ?_
     refine ExF.done ?_
     iterate 2 refine Ex.pu ?_
     apply Ex.nil
     apply X.sr
     refine Ex.pu ?_
     refine ExF.at 1 ?_
     refine ExF.pu ?_
     iterate 7 refine ExF.gi ?_
     refine ExF.cg (C_tactuskit_above m (rnV (x % 504)) (by omega)) ?_
     refine ExF.gi ?_
     refine ExF.done ?_
     refine Ex.pu ?_
     apply Ex.nil
     refine X.cd rfl (fun hc8 => ?_) (fun hc8 => ?_)
     ·have hrow := rnK_dotI hS hx hc1.2 hc8
      apply X.region
      iterate 2 refine Ex.pu ?_
      refine Ex.bs sgE [sgDot] ?_
      refine Ex.mo ?_
      refine Ex.pu ?_
      apply Ex.nil
      apply X.region
      iterate 3 refine Ex.pu ?_
      apply Ex.nil
      refine X.bk (k + 1) (hI := Imp.ax)
     ·have hrow := rnK_sgnI hS hx hc1.2 hc8
      apply X.skip
      apply X.region
      iterate 3 refine Ex.pu ?_
      apply Ex.nil
      refine X.bk (k + 1) (hI := Imp.ax)
    ·have hS : rnS k (x % 504) = ⟨1, rnV (x % 504), (k : Int) % 9, 0, false, 0, false, false, ⟨0, 0, 0, 0⟩, false, 0, 0, 0, 0⟩ := by unfold rnS; rw [if_neg hc2, decide_eq_false hc4, decide_eq_false hc7]; rfl
     apply X.skip
     apply X.sr
     iterate 2 refine Ex.pu ?_
     refine Ex.bs sgE [⟨1, rnV (x % 504), (k : Int) % 9, 0, false, 0, false, false, ⟨0, 0, 0, 0⟩, false, 0, 0, 0, 0⟩] ?_
     refine Ex.mo ?_
     refine Ex.pu ?_
     apply Ex.nil
     apply X.sr
     iterate 3 refine Ex.pu ?_
     refine ExF.at 3 ?_
     refine ExF.pu ?_
     iterate 4 refine ExF.gi ?_
     refine ExF.done ?_
     iterate 2 refine Ex.pu ?_
     apply Ex.nil
     apply X.sr
     refine Ex.pu ?_
     refine ExF.at 1 ?_
     refine ExF.pu ?_
     iterate 7 refine ExF.gi ?_
     refine ExF.cg (C_tactuskit_above m (rnV (x % 504)) (by omega)) ?_
     refine ExF.gi ?_
     refine ExF.done ?_
     refine Ex.pu ?_
     apply Ex.nil
     refine X.cd rfl (fun hc9 => ?_) (fun hc9 => ?_)
     ·have hrow := rnK_dotI hS hx hc1.2 hc9
      apply X.region
      iterate 2 refine Ex.pu ?_
      refine Ex.bs sgE [sgDot] ?_
      refine Ex.mo ?_
      refine Ex.pu ?_
      apply Ex.nil
      apply X.region
      iterate 3 refine Ex.pu ?_
      apply Ex.nil
      refine X.bk (k + 1) (hI := Imp.ax)
     ·have hrow := rnK_sgnI hS hx hc1.2 hc9
      apply X.skip
      apply X.region
      iterate 3 refine Ex.pu ?_
      apply Ex.nil
      refine X.bk (k + 1) (hI := Imp.ax)
 ·have hfin : rnK m nums most k = rnL m nums most := rnL_at (by omega) hc1
  apply X.exit
  apply X.sr
  iterate 2 refine Ex.pu ?_
  apply Ex.nil
  refine X.ret ?_
  refine RetQ.imp (Imp.freeze (k := 8) rfl) ?_
  refine RetQ.ret (.one (.tmp rfl (LeV.eq ?_)))
  all_goals (rw [← hfin]; rfl)
end Go.Rse
