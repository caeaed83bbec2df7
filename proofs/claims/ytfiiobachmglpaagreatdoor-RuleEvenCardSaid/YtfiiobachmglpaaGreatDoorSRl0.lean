/-
  Plain: the reading by the rule: its items are valid, what stays as it was, which errors there are.
-/
import Derived.Test.YtfiiobachmglpaaGreatDoorSRulC
import Derived.Test.YtfiiobachmglpaaGreatDoorSLevA
import Derived.Test.YtfiiobachmglpaaGreatDoorSItfA
set_option linter.unusedSimpArgs false
set_option linter.unusedVariables false
namespace Go.Rse
open Go Go.Proofs
theorem mngs_rng {m : Mn} {s : Sg} (hM : ckM m = 0) (h1 : 1 <= s.Value) (h8 : s.Value <= 8) : ∀ v ∈ mngs m s, 0 <= v /\ v <= 8 := by
 intro v hv
 have ha := aV_rng (m := m) h1
 by_cases hz : s.Kind = 2 /\ m.aV s.Value = 0
 ·have := (mngs_zero hM h1 h8).2 hz
  rw [List.length_eq_zero_iff.1 this] at hv; simp at hv
 ·rw [mngs_R hM h1 h8 hz] at hv
  unfold mngR at hv
  repeat' (split at hv)
  all_goals (simp at hv; omega)
theorem cut_rng {m : Mn} {l : List Sg} {ch : List Int} (h : mkE m l ch = 0) {k : Nat} {s : Sg} (hs : l[k]? = some s) (h3 : ¬ s.Kind = 3) : 0 <= (afterK ch l l.length k).1 /\ (afterK ch l l.length k).1 <= 8 := by
 obtain ⟨hM, v1, v8⟩ := ckFrom_val (ck_mkE h) hs h3
 unfold afterK
 cases hz : l[k + 1]? with
 | none => exact ⟨Int.le_refl 0, show (0 : Int) <= 8 by decide⟩
 | some z =>
  simp only
  split
  ·rename_i hd
   have hat := dotsK_at hz hd.2 l.length hd.1
   obtain ⟨e1, e2⟩ := mk_len h
   have hmn : (mnsD m l)[(dotsK l (k + 1)).length]? = some (mngs m s) := by
    unfold mnsD
    rw [List.getElem?_map, hat]
    show some (mnAt m l ((k + 1 : Nat) : Int)) = _
    unfold mnAt prevS
    rw [show (((k + 1 : Nat) : Int) - 1).toNat = k by omega, hs]
   have hlt := (List.getElem?_eq_some_iff.1 hmn).1
   obtain ⟨v, hv⟩ : ∃ v, ch[(dotsK l (k + 1)).length]? = some v := ⟨_, List.getElem?_eq_getElem (by omega)⟩
   have hmem := chOk_iff.1 e2 _ _ _ hmn hv
   show 0 <= ch.getD (dotsK l (k + 1)).length 0 /\ ch.getD (dotsK l (k + 1)).length 0 <= 8
   rw [getD_of hv]
   exact mngs_rng hM v1 v8 v hmem
  ·exact ⟨Int.le_refl 0, show (0 : Int) <= 8 by decide⟩
def okT (m : Mn) (v : Int) : Bool := decide (ckT (fullT m v) = 0) && decide (ckT (durT m v) = 0) && decide (ckT (mulV (fullT m v) ⟨3, 2⟩) = 0) && decide (ckT (mulV (durT m v) ⟨3, 2⟩) = 0)
theorem okT_all : ckAll okT = true := by kernel_rfl
theorem dur_ok {m : Mn} {s : Sg} {z : Tm} (hm : ckM m = 0) (h1 : 1 <= s.Value) (h8 : s.Value <= 8) (hz : z = bsT m s \/ z = ⟨3, 2⟩ \/ z = ⟨1, 2⟩) : ckT z = 0 /\ ckT (mulV z ⟨3, 2⟩) = 0 := by
 have h := ckAll_use okT_all hm h1 h8
 unfold okT at h
 simp only [Bool.and_eq_true, decide_eq_true_eq] at h
 rcases hz with rfl | rfl | rfl
 ·unfold bsT; split
  ·exact ⟨h.1.1.2, h.2⟩
  ·exact ⟨h.1.1.1, h.1.2⟩
 ·exact ⟨by decide +kernel, by decide +kernel⟩
 ·exact ⟨by decide +kernel, by decide +kernel⟩
theorem iTM_P {m : Mn} {l : List Sg} {ch mi : List Int} (h1 : mkE m l ch = 0) {k : Nat} {s : Sg} (hs : l[k]? = some s) (h3 : ¬ s.Kind = 3) : itP (iTM m l ch mi k s) := by
 obtain ⟨hM, v1, v8⟩ := ckFrom_val (ck_mkE h1) hs h3
 have hc := cut_rng h1 hs h3
 have hz : ∀ z, z = (mget (k : Int) (duM m l mi)).getD (bsT m s) -> z = bsT m s \/ z = ⟨3, 2⟩ \/ z = ⟨1, 2⟩ := by
  intro z hz
  cases hq : mget (k : Int) (duM m l mi) with
  | none => rw [hq] at hz; exact .inl hz
  | some x => rw [hq] at hz; exact .inr (by rw [show z = x from hz]; exact markK_vals _ _ _ _ _ hq)
 have hz := hz _ rfl
 unfold iTM
 generalize (mget (k : Int) (duM m l mi)).getD (bsT m s) = z at *
 generalize (afterK ch l l.length k).1 = c at *
 generalize (afterK ch l l.length k).2 = a at *
 have hp := dur_pos hM v1 v8 hz
 have ho := dur_ok hM v1 v8 hz
 have e01 : ckT ⟨0, 1⟩ = 0 := by decide +kernel
 refine ⟨itF_of ⟨⟨v1, v8, hc.1, hc.2⟩, ?_, e01, e01, ?_⟩, ?_⟩
 ·show ckT (if a = true then mulV z ⟨3, 2⟩ else z) = 0
  split
  ·exact ho.2
  ·exact ho.1
 ·intro hk
  have hk : (decide (s.Kind = 2) = true /\ clr s = true) \/ ((decide (s.Kind = 2) = true \/ clr s = true) /\ (a || decide (s.Kind = 2) || clr s || decide (c = s.Value)) = false) := hk
  simp only [Bool.or_eq_false_iff] at hk
  rcases hk with ⟨h4, h5⟩ | ⟨h4 | h4, h5⟩
  ·have h4 := of_decide_eq_true h4
   unfold clr at h5; rw [h4] at h5; simp at h5
  ·rw [h5.1.1.2] at h4; cases h4
  ·rw [h5.1.2] at h4; cases h4
 ·show 1 <= (if a = true then mulV z ⟨3, 2⟩ else z).N
  split
  ·exact hp.2
  ·exact hp.1
theorem itm_P {m : Mn} {l : List Sg} {ch mi : List Int} (h1 : mkE m l ch = 0) (h2 : duE m l mi = 0) (hD : DotsOk l) : ∀ x ∈ itmV m l ch mi, itP x := by
 intro x hx
 obtain ⟨i, hi⟩ := List.mem_iff_getElem?.1 hx
 have hi2 := hi
 rw [itmV_y (by unfold itmE; rw [if_pos h1, h2])] at hi
 obtain ⟨k, s, hk, hs, h3, hn, hx2⟩ := it_idx l.length hi
 have hg := it_get h1 h2 hD hs h3
 rw [hn, hi2] at hg
 injection hg with hg
 rw [hg]
 exact iTM_P h1 hs h3
theorem pf_un {m : Mn} (hM : ckM m = 0) {k : Int} (hk : k ∈ perfL m) : unE m k = 0 := by
 rw [perfL_mem] at hk
 unfold unE; rw [if_pos hM, if_pos hk]
section
variable {m : Mn} {l : List Sg}
theorem rdI_P (h0 : ckD m l = 0) (hD : DotsOk l) : ∀ x ∈ rdI m l, itP x := itm_P (rule_mk (ckD_zero h0).1 h0) (rule_du h0) hD
theorem rdI_le (h0 : ckD m l = 0) (hD : DotsOk l) : ckIE (rdI m l) = 0 := ckIE_of fun x hx => (rdI_P h0 hD x hx).1
theorem rdE_lv (h0 : ckD m l = 0) (hD : DotsOk l) : rdE m l = (lvF m (perfL m) (rdI m l) []).2.2 := by
 unfold rdE leE; rw [if_pos h0, if_pos (ckD_zero h0).1, if_pos (rdI_le h0 hD)]
theorem rd_err (h0 : ckD m l = 0) (hD : DotsOk l) : eOk (rdE m l) := by
 rw [rdE_lv h0 hD]
 exact (lvF_P (ckD_zero h0).1 (perfL m) (rdI m l) [] (fun k hk => pf_un (ckD_zero h0).1 hk) (rdI_P h0 hD)).1
theorem rdV_lv (h0 : ckD m l = 0) (hD : DotsOk l) (he : rdE m l = 0) : (rdV m l).Durs = (lvF m (perfL m) (rdI m l) []).2.1.map (·.Dur) := by
 have h2 : leE m (rdI m l) = 0 := by unfold rdE at he; rw [if_pos h0] at he; exact he
 rw [(rd_c h0 h2).2]
 show (leI m (rdI m l)).map (·.Dur) = _
 unfold leI; rw [if_pos h2]
theorem rd_keep (h0 : ckD m l = 0) (hD : DotsOk l) (he : rdE m l = 0) : (rdV m l).Durs.length = (rdI m l).length /\ ∀ (i : Nat) x, (rdI m l)[i]? = some x -> ∃ d, (rdV m l).Durs[i]? = some d /\ ckT d = 0 /\ 1 <= d.N /\ ((x.Fixed = true \/ perfL m = []) -> d = x.Dur) := by
 have hP := (lvF_P (ckD_zero h0).1 (perfL m) (rdI m l) [] (fun k hk => pf_un (ckD_zero h0).1 hk) (rdI_P h0 hD)).2 (by rw [← rdE_lv h0 hD]; exact he)
 rw [rdV_lv h0 hD he]
 obtain ⟨p1, p2, p3, p4⟩ := hP
 refine ⟨by rw [List.length_map, p2], fun i x hx => ?_⟩
 have hlt := (List.getElem?_eq_some_iff.1 hx).1
 obtain ⟨y, hy⟩ : ∃ y, (lvF m (perfL m) (rdI m l) []).2.1[i]? = some y := ⟨_, List.getElem?_eq_getElem (by omega)⟩
 have hyP := p1 y (List.mem_of_getElem? hy)
 refine ⟨y.Dur, by rw [List.getElem?_map, hy]; rfl, (itF_ok hyP.1).2.1, hyP.2, fun hf => ?_⟩
 rcases hf with hf | hf
 ·have h := p4 (i : Int) (by omega) (by rw [itg_of hx]; exact hf)
  rw [itg_of hx, itg_of hy] at h; rw [h]
 ·rw [hf] at hy
  rw [show (lvF m [] (rdI m l) []).2.1 = rdI m l from rfl, hx] at hy
  injection hy with hy; rw [hy]
theorem rd_len (h0 : ckD m l = 0) (hD : DotsOk l) (he : rdE m l = 0) : (rdV m l).Durs.length = ntN l l.length := by
 rw [(rd_keep h0 hD he).1]
 exact itm_len (rule_mk (ckD_zero h0).1 h0) (rule_du h0)
theorem rd_at (h0 : ckD m l = 0) (hD : DotsOk l) (he : rdE m l = 0) {k : Nat} {s : Sg} (hs : l[k]? = some s) (h3 : ¬ s.Kind = 3) : ∃ d, (rdV m l).Durs[ntN l k]? = some d /\ ckT d = 0 /\ 1 <= d.N ∧
 (s.Kind = 2 -> d = fullT m s.Value) /\ (s.Kind = 1 -> s.Color = false -> (∀ z, l[k + 1]? = some z -> ¬ z.Kind = 3) -> perfL m = [] -> d = fullT m s.Value) ∧
 (s.Kind = 1 -> s.Color = true -> (∀ z, l[k + 1]? = some z -> ¬ z.Kind = 3) -> prL m l = [] -> d = durT m s.Value) := by
 have h1 := rule_mk (ckD_zero h0).1 h0
 have h2 := rule_du h0
 have hx := it_get h1 h2 hD hs h3
 obtain ⟨d, d1, d2, d3, d4⟩ := (rd_keep h0 hD he).2 _ _ hx
 have hun : clr s = false -> (mget (k : Int) (duM m l (twos (prL m l).length))).getD (bsT m s) = fullT m s.Value := fun h => by
  rw [mark_un hs h]; show bsT m s = _
  unfold bsT; rw [if_neg (by rw [h]; decide)]
 have hD2 : ∀ a : Bool, (afterK (ruleD m l) l l.length k).2 = a -> a = false -> (iTM m l (ruleD m l) (twos (prL m l).length) k s).Dur = (mget (k : Int) (duM m l (twos (prL m l).length))).getD (bsT m s) := by
  intro a ha haf
  unfold iTM itOf
  show (if (afterK (ruleD m l) l l.length k).2 = true then _ else _) = _
  rw [ha, haf, if_neg (by decide)]
 have hnd : (∀ z, l[k + 1]? = some z -> ¬ z.Kind = 3) -> (afterK (ruleD m l) l l.length k).2 = false := fun h => by
  unfold afterK
  cases hq : l[k + 1]? with
  | none => rfl
  | some z => simp only; rw [if_neg (fun e => h z hq e.2)]
 refine ⟨d, d1, d2, d3, fun hk => ?_, fun hk hc hn hp => ?_, fun hk hc hn hp => ?_⟩
 ·have hf : (iTM m l (ruleD m l) (twos (prL m l).length) k s).Fixed = true := by
   show ((afterK (ruleD m l) l l.length k).2 || decide (s.Kind = 2) || clr s || decide ((afterK (ruleD m l) l l.length k).1 = s.Value)) = true
   rw [decide_eq_true hk]; simp
  rw [d4 (.inl hf), hD2 _ rfl (rest_add h1 hs hk)]
  exact hun (by unfold clr; rw [hk]; rfl)
 ·rw [d4 (.inr hp), hD2 _ rfl (hnd hn)]
  exact hun (by unfold clr; rw [hc]; simp)
 ·have hcl : clr s = true := by unfold clr; rw [hc, hk]; rfl
  have hf : (iTM m l (ruleD m l) (twos (prL m l).length) k s).Fixed = true := by
   show ((afterK (ruleD m l) l l.length k).2 || decide (s.Kind = 2) || clr s || decide ((afterK (ruleD m l) l l.length k).1 = s.Value)) = true
   rw [hcl]; simp
  rw [d4 (.inl hf), hD2 _ rfl (hnd hn)]
  have : mget (k : Int) (duM m l (twos (prL m l).length)) = none := by
   unfold duM; rw [hp]; rfl
  rw [this]
  show bsT m s = _
  unfold bsT; rw [if_pos hcl]
end
theorem lv_all {m : Mn} {I : List Ite} (h0 : ckM m = 0) (h1 : ckIE I = 0) (h : leE m I = 0) : ∀ n, n <= (perfL m).length -> LvJ m (perfL m) I n
 | 0, _ => LvJ.z m _ I
 | n + 1, hn => by
  have ih := lv_all h0 h1 h n (by omega)
  have hk : (perfL m)[n]? = some ((perfL m)[n]'(by omega)) := List.getElem?_eq_getElem (by omega)
  refine ih.s hk (Classical.byContradiction fun he => ?_)
  have := (le_c h0 h1 ih hk he).1
  rw [h] at this; exact he this.symm
theorem lv_cu {m : Mn} {I : List Ite} (h0 : ckM m = 0) (h1 : ckIE I = 0) (h : leE m I = 0) {n : Nat} {k : Int} (hk : (perfL m)[n]? = some k) : cuE m k (lvN m (perfL m) I n).2 = 0 := by
 have hlt := (List.getElem?_eq_some_iff.1 hk).1
 refine Classical.byContradiction fun he => ?_
 have := (le_c h0 h1 (lv_all h0 h1 h n (by omega)) hk he).1
 rw [h] at this; exact he this.symm
theorem lv_pre {m : Mn} {L : List Int} {I : List Ite} {n : Nat} : ∀ d, ∃ r, (lvN m L I (n + d)).1 = (lvN m L I n).1 ++ r
 | 0 => ⟨[], by simp⟩
 | d + 1 => by
  obtain ⟨r, hr⟩ := lv_pre (m := m) (L := L) (I := I) (n := n) d
  exact ⟨r ++ cuV m (L.getD (n + d) 0) (lvN m L I (n + d)).2, by show (lvN m L I (n + d)).1 ++ cuV m (L.getD (n + d) 0) (lvN m L I (n + d)).2 = _; rw [hr, List.append_assoc]⟩
theorem lv_part {m : Mn} {I : List Ite} (h0 : ckM m = 0) (h1 : ckIE I = 0) (h : leE m I = 0) {n : Nat} {k : Int} (hk : (perfL m)[n]? = some k) :
 (lvN m (perfL m) I n).1.length + (segV m k (lvN m (perfL m) I n).2).length <= (leC m I).length ∧
 ((leC m I).drop (lvN m (perfL m) I n).1.length).take (segV m k (lvN m (perfL m) I n).2).length = cuV m k (lvN m (perfL m) I n).2 ∧
 (lvN m (perfL m) I (n + 1)).1.length = (lvN m (perfL m) I n).1.length + (segV m k (lvN m (perfL m) I n).2).length ∧
 segE m k (lvN m (perfL m) I n).2 = 0 /\ apE m k (lvN m (perfL m) I n).2 (cuV m k (lvN m (perfL m) I n).2) = 0 ∧
 apV m k (lvN m (perfL m) I n).2 (cuV m k (lvN m (perfL m) I n).2) = (lvN m (perfL m) I (n + 1)).2 := by
 have hlt := (List.getElem?_eq_some_iff.1 hk).1
 have hc := lv_cu h0 h1 h hk
 obtain ⟨c0, c1⟩ := cuE_0 hc
 have hl : (cuV m k (lvN m (perfL m) I n).2).length = (segV m k (lvN m (perfL m) I n).2).length := by
  unfold cuO at c1; exact (mdK_ok c1).1
 obtain ⟨e1, e2⟩ := LvJ.eqs (m := m) (l := I) hk
 have hend := (le_d h0 h1 (lv_all h0 h1 h (perfL m).length (Nat.le_refl _)) rfl).2.1
 obtain ⟨r, hr⟩ := lv_pre (m := m) (L := perfL m) (I := I) (n := n + 1) ((perfL m).length - (n + 1))
 rw [show n + 1 + ((perfL m).length - (n + 1)) = (perfL m).length by omega, hend, ← e1, List.append_assoc] at hr
 refine ⟨?_, ?_, ?_, c0, cu_ap hc, e2⟩
 ·rw [hr, List.length_append, List.length_append]; omega
 ·rw [hr, List.drop_left, ← hl, List.take_left]
 ·rw [← e1, List.length_append, hl]
theorem lv_end {m : Mn} {I : List Ite} (h0 : ckM m = 0) (h1 : ckIE I = 0) (h : leE m I = 0) : (lvN m (perfL m) I (perfL m).length).1 = leC m I /\ (lvN m (perfL m) I (perfL m).length).2 = leI m I :=
 (le_d h0 h1 (lv_all h0 h1 h (perfL m).length (Nat.le_refl _)) rfl).2
def evS (v : Int) (r : Bool) : Sg := { (default : Sg) with Kind := if r = true then 2 else 1, Value := v }
theorem ev_at {v : Int} {R : List Bool} {k : Nat} {s : Sg} (h : (R.map (evS v))[k]? = some s) : (s.Kind = 1 \/ s.Kind = 2) /\ s.Value = v /\ s.Color = false := by
 rw [List.getElem?_map] at h
 cases hr : R[k]? with
 | none => rw [hr] at h; cases h
 | some r =>
  rw [hr] at h; injection h with h; subst h
  refine ⟨?_, rfl, rfl⟩
  show (if r = true then (2 : Int) else 1) = 1 \/ (if r = true then (2 : Int) else 1) = 2
  split
  ·exact .inr rfl
  ·exact .inl rfl
theorem ev_reads {m : Mn} {v : Int} {R : List Bool} (hM : ckM m = 0) (h1 : 1 <= v) (h8 : v <= 8) (hl : R.length <= 30) : rdE m (R.map (evS v)) = 0 /\ (rdV m (R.map (evS v))).Durs = List.replicate R.length (fullT m v) := by
 have hG : Gr m (R.map (evS v)) := fun i s hs => by
  obtain ⟨a, b, c⟩ := ev_at hs
  exact .inl ⟨a, by omega, by omega⟩
 have h0 := gr_ck hM hG
 have hD : DotsOk (R.map (evS v)) := gr_dots hG
 have k1 := rule_mk hM h0
 have k2 := rule_du h0
 have hn3 : ∀ (k : Nat) z, (R.map (evS v))[k]? = some z -> ¬ z.Kind = 3 := fun k z hz => by have := (ev_at hz).1; omega
 have hnt : ∀ k, k <= (R.map (evS v)).length -> ntN (R.map (evS v)) k = k := by
  intro k
  induction k with
  | zero => intro _; rfl
  | succ k ih =>
   intro hk
   have hs : (R.map (evS v))[k]? = some ((R.map (evS v))[k]'(by omega)) := List.getElem?_eq_getElem (by omega)
   rw [ntN_nr hs (hn3 k _ hs), ih (by omega)]
 have hlen : (rdI m (R.map (evS v))).length = R.length := by
  have := itm_len k1 k2
  rw [hnt _ (Nat.le_refl _), List.length_map] at this; exact this
 have hE : ∀ x ∈ rdI m (R.map (evS v)), EvI m v x := fun x hx => by
  obtain ⟨i, hi⟩ := List.mem_iff_getElem?.1 hx
  have hil := (List.getElem?_eq_some_iff.1 hi).1
  have hs : (R.map (evS v))[i]? = some ((R.map (evS v))[i]'(by rw [List.length_map]; omega)) := List.getElem?_eq_getElem (by rw [List.length_map]; omega)
  have hg := it_get k1 k2 hD hs (hn3 i _ hs)
  rw [hnt i (by rw [List.length_map]; omega)] at hg
  have hi' : (itmV m (R.map (evS v)) (ruleD m (R.map (evS v))) (twos (prL m (R.map (evS v))).length))[i]? = some x := hi
  rw [hi'] at hg
  injection hg with hg
  obtain ⟨a, b, c⟩ := ev_at hs
  generalize (R.map (evS v))[i]'(by rw [List.length_map]; omega) = s at *
  have hcl : clr s = false := by unfold clr; rw [c]; simp
  have haf : afterK (ruleD m (R.map (evS v))) (R.map (evS v)) (R.map (evS v)).length i = (0, false) := by
   unfold afterK
   cases hq : (R.map (evS v))[i + 1]? with
   | none => rfl
   | some z => simp only; rw [if_neg (fun e => hn3 _ z hq e.2)]
  subst hg
  unfold iTM
  rw [haf]
  refine ⟨b, hcl, rfl, ?_, rfl, rfl⟩
  show (if false = true then mulV ((mget (i : Int) (duM m (R.map (evS v)) (twos (prL m (R.map (evS v))).length))).getD (bsT m s)) ⟨3, 2⟩ else (mget (i : Int) (duM m (R.map (evS v)) (twos (prL m (R.map (evS v))).length))).getD (bsT m s)) = _
  rw [if_neg (by decide), mark_un hs hcl]
  show bsT m s = _
  unfold bsT; rw [if_neg (by rw [hcl]; decide), b]
 have hal := even_all h1 h8 (by omega) (fun x hx => (rdI_P h0 hD x hx).1) hE (perfL m) [] (fun k hk => pf_un hM hk)
 have he : rdE m (R.map (evS v)) = 0 := by rw [rdE_lv h0 hD, hal]
 refine ⟨he, ?_⟩
 rw [rdV_lv h0 hD he, hal]
 rw [List.eq_replicate_iff]
 refine ⟨by rw [List.length_map, hlen], fun t ht => ?_⟩
 obtain ⟨x, hx, rfl⟩ := List.mem_map.1 ht
 exact (hE x hx).d
theorem rnS_rest (i : Nat) (n : Int) (h : (rnS i n).Kind = 2) : (rnS i n).Color = false := by
 unfold rnS at h ⊢
 split
 ·rfl
 ·rename_i h2; rw [if_neg h2] at h; exact absurd (show (1 : Int) = 2 from h) (by decide)
theorem rnK_rest (m : Mn) (nums : List Int) (most : Int) : ∀ k, ∀ s ∈ rnK m nums most k, s.Kind = 1 \/ s.Color = false
 | 0 => fun s hs => by simp [rnK] at hs
 | k + 1 => fun s hs => by
  have ih := rnK_rest m nums most k
  have h1 : ∀ n, (rnS k n).Kind = 1 \/ (rnS k n).Color = false := fun n => by
   rcases (rnS_kind k n).1 with h | h
   ·exact .inl h
   ·exact .inr (rnS_rest k n h)
  unfold rnK at hs
  split at hs
  ·split at hs
   ·split at hs
    ·rcases List.mem_append.1 hs with hs | hs
     ·rcases List.mem_append.1 hs with hs | hs
      ·exact ih s hs
      ·simp at hs; subst hs; exact h1 _
     ·simp at hs; subst hs; exact .inr rfl
    ·rcases List.mem_append.1 hs with hs | hs
     ·exact ih s hs
     ·simp at hs; subst hs; exact h1 _
   ·exact ih s hs
  ·exact ih s hs
theorem le_0 {m : Mn} {I : List Ite} (h : leE m I = 0) : ckM m = 0 /\ ckIE I = 0 := by
 have h0 : ckM m = 0 := Classical.byContradiction fun h2 => h2 ((le_a h2).1.symm.trans h)
 exact ⟨h0, Classical.byContradiction fun h2 => h2 ((le_b h0 h2).1.symm.trans h)⟩
theorem leC_len (m : Mn) (I : List Ite) : (leC m I).length <= 4 * (2 * I.length + 2) := by
 by_cases h : leE m I = 0
 ·obtain ⟨hM, hI⟩ := le_0 h
  rw [← (lv_end hM hI h).1]
  have h1 := (lv_all hM hI h (perfL m).length (Nat.le_refl _)).cho
  have h2 := Nat.mul_le_mul_right (2 * I.length + 2) (pfl_len m)
  omega
 ·unfold leC; rw [if_neg h]; simp
theorem rdV_lens (m : Mn) {l : List Sg} (hl : l.length <= 1000) : (rdV m l).Dots.length <= 1000 /\ (rdV m l).Minor.length <= 1000 /\ (rdV m l).Choices.length <= 10000 /\ (rdV m l).Durs.length <= 1000 := by
 have hd : (ruleD m l).length <= 1000 := by have := rule_len m l; have := mnsD_le m l; omega
 have hp : (twos (prL m l).length).length <= 1000 := by rw [twos_len]; have := prL_len m l; omega
 have hc := leC_len m (rdI m l)
 have hi := rdI_len (m := m) (l := l)
 have hu := rdV_len (m := m) (l := l)
 refine ⟨?_, ?_, ?_, by omega⟩
 ·unfold rdV; split
  ·exact hd
  ·simp
 ·unfold rdV; split
  ·exact hp
  ·simp
 ·unfold rdV; split
  ·show (leC m (rdI m l)).length <= _; omega
  ·simp
end Go.Rse
