/-
  Walks: the meaning of each dot by the rule.
  Walks: the list of meanings with a number.
  Walks: the cuts and additions of chosen meanings.
  Walks: cuts and additions.
-/
import Derived.Test.YtfiiobachmglpaaGreatDoorCDotA
import Derived.Test.YtfiiobachmglpaaGreatDoorCLogB
import Derived.Test.YtfiiobachmglpaaGreatDoorCLogC
set_option linter.unusedSimpArgs false
set_option linter.unusedVariables false
namespace Go.Rse
open Go Go.Proofs
attribute [local irreducible] Pur StepA StepM Ex X Fn Imp LeV LeB FnO It YStep
def nextV (l : List Sg) (i : Int) : Int := match l[(i + 1).toNat]? with | some s => s.Value | none => 9
def choice (m : Mn) (l : List Sg) (i : Int) (p : Sg) : Int :=
 if (mngs m p).length = 2 then (if nextV l i <= p.Value then m.aV p.Value else if m.pV p.Value = 3 then p.Value else 0) else (mngs m p).headD 0
def ruleAt (m : Mn) (l : List Sg) (i : Int) : Int := match prevS l i with | some p => choice m l i p | none => 0
def ruleD (m : Mn) (l : List Sg) : List Int := (dotsK l l.length).map (ruleAt m l)
theorem dotsK_ne {m : Mn} {l : List Sg} (h : ckFrom m l 0 l = 0) : ∀ k, k <= l.length -> ∀ x, x ∈ dotsK l k -> ∀ p, l[(x - 1).toNat]? = some p -> (mngs m p).length ≠ 0
 | 0, _, x, hx => by simp [dotsK] at hx
 | k + 1, hk, x, hx => by
  simp only [dotsK, List.mem_append] at hx
  rcases hx with hx | hx
  ·exact dotsK_ne h k (by omega) x hx
  ·have hs : l[k]? = some l[k] := List.getElem?_eq_getElem (by omega)
   simp only [hs] at hx
   split at hx
   ·rename_i hK
    have h0 := (ckFrom_all h (k + 1) hk).2 k _ (by omega) hs
    simp at hx
    intro p hp
    cases k with
    | zero => unfold sgF at h0; rw [if_neg (by omega), if_pos hK] at h0; simp at h0
    | succ j =>
     rw [show (x - 1).toNat = j by omega] at hp
     unfold sgF at h0
     rw [if_neg (by omega), if_pos hK] at h0
     simp only [hp] at h0
     intro hz
     rw [if_pos (.inr hz)] at h0
     simp at h0
   ·simp at hx
end Go.Rse
namespace Go.Rse
open Go Go.Proofs
attribute [local irreducible] Pur StepA StepM Ex X Fn Imp LeV LeB FnO It YStep
theorem hz_int : ∀ (I : Im) (j : Nat) c, (intE 0)[j]? = some c -> RV I noNames c (.int .i64 0) := fun I j c h => by
 cases j with
 | zero => simp [intE] at h; subst h; exact .int _ _
 | succ j => simp [intE] at h
def backL (l : List (List Int)) : List (List AV) := (List.range l.length).map fun (j : Nat) => [iv ((l.length : Int) - 1 - (j : Int)), intsA (l.getD (l.length - 1 - j) [])]
theorem backL_get {l : List (List Int)} {k : Nat} (h : k < l.length) : (backL l)[k]? = some [iv ((l.length : Int) - 1 - k), intsA (l.getD (l.length - 1 - k) [])] := by
 simp [backL, h]
theorem backL_inv {l : List (List Int)} {j : Nat} {zs : List AV} (h : (backL l)[j]? = some zs) : j < l.length /\ zs = [iv ((l.length : Int) - 1 - j), intsA (l.getD (l.length - 1 - j) [])] := by
 have hlt : j < l.length := by have := (List.getElem?_eq_some_iff.1 h).1; simpa [backL] using this
 rw [backL_get hlt] at h
 exact ⟨hlt, by simpa using h.symm⟩
theorem backL_len (l : List (List Int)) : (backL l).length = l.length := by simp [backL]
def ofN (L : List (List Int)) (n : Int) : Nat -> Int
 | 0 => n
 | j + 1 => ofN L n j / ((L.getD (L.length - 1 - j) []).length : Int)
def ofV (L : List (List Int)) (n : Int) (j : Nat) : Int := (L.getD (L.length - 1 - j) []).getD (ofN L n j % ((L.getD (L.length - 1 - j) []).length : Int)).toNat 0
def ofRow (L : List (List Int)) (n : Int) : Nat -> List Int
 | 0 => []
 | j + 1 => ofV L n j :: ofRow L n j
theorem ofRow_len (L : List (List Int)) (n : Int) : ∀ j, (ofRow L n j).length = j
 | 0 => rfl
 | j + 1 => by simp [ofRow, ofRow_len L n j]
theorem ofN_rng {L : List (List Int)} {n : Int} (h0 : 0 <= n) (h1 : n <= 64) (hL : ∀ x ∈ L, 1 <= x.length) : ∀ j, j <= L.length -> 0 <= ofN L n j /\ ofN L n j <= 64
 | 0, _ => ⟨h0, h1⟩
 | j + 1, hj => by
  obtain ⟨a, b⟩ := ofN_rng h0 h1 hL j (by omega)
  have hx : 1 <= (L.getD (L.length - 1 - j) []).length := by
   rw [List.getD_eq_getElem?_getD, List.getElem?_eq_getElem (by omega)]
   exact hL _ (List.getElem_mem _)
  simp only [ofN]
  generalize (L.getD (L.length - 1 - j) []).length = q at hx ⊢
  refine ⟨Int.ediv_nonneg a (by omega), Int.le_trans (Int.ediv_le_self _ a) b⟩
def ofD (L : List (List Int)) (n : Int) : List Int := ofRow L n L.length
theorem of_set {L : List (List Int)} {n : Int} {j : Nat} (hj : j < L.length) : (List.replicate (L.length - j) 0 ++ ofRow L n j).set ((L.length : Int) - 1 - j).toNat (ofV L n j) = List.replicate (L.length - (j + 1)) 0 ++ ofRow L n (j + 1) := by
 have e : ((L.length : Int) - 1 - j).toNat = L.length - (j + 1) := by omega
 rw [e, show L.length - j = (L.length - (j + 1)) + 1 by omega, List.replicate_succ', List.append_assoc, List.set_append_right _ _ (by simp)]
 simp [ofRow]
def ofE (m : Mn) (l : List Sg) (n : Int) : Int := if cntE m l = 0 then (if n < 0 \/ cntV m l <= n then 2 else 0) else cntE m l
def ofL (m : Mn) (l : List Sg) (n : Int) : List Int := if ofE m l n = 0 then ofD (mnsD m l) n else []
theorem cntE_ck {m : Mn} {l : List Sg} (h : cntE m l = 0) : ckD m l = 0 := by
 unfold cntE at h
 split at h
 ·assumption
 ·exact h
theorem cntF_pos : ∀ {L : List (List Int)} {n : Int}, (∀ x ∈ L, 1 <= x.length) -> 1 <= n -> n <= 64 -> 1 <= cntF n L
 | [], n, _, h, _ => h
 | x :: r, n, hL, h, h64 => by
  have hx := hL x (by simp)
  have hp : 1 <= n * (x.length : Int) := by
   have : (1 : Int) * 1 <= n * (x.length : Int) := Int.mul_le_mul h (by omega) (by omega) (by omega)
   simpa using this
  unfold cntF
  split
  ·omega
  ·exact cntF_pos (fun y hy => hL y (by simp [hy])) hp (by omega)
theorem cntV_le {m : Mn} {l : List Sg} : cntV m l <= 64 := by
 unfold cntV; split
 ·split <;> omega
 ·omega
theorem mnsD_pos {m : Mn} {l : List Sg} (h : ckD m l = 0) {x : List Int} (hx : x ∈ mnsD m l) : 1 <= x.length := by
 obtain ⟨i, hi, rfl⟩ := List.mem_map.1 hx
 have hF : ckFrom m l 0 l = 0 := by unfold ckD at h; split at h
                                    ·exact h
                                    ·exact absurd h (by assumption)
 obtain ⟨j, s, p, h1, h2, h3⟩ := dotsK_mem hF l.length (Nat.le_refl _) i hi
 have hp : l[(i - 1).toNat]? = some p := by rw [show (i - 1).toNat = j by omega]; exact h3
 have := dotsK_ne hF l.length (Nat.le_refl _) i hi p hp
 unfold mnAt prevS
 rw [hp]; show 1 <= (mngs m p).length; omega
theorem C_slices_Backward_int_int_1L (l : List (List Int)) (hl : l.length <= 4000000000) : It Tryz.prog 283 [.ept (fun _ : Unit => [.sl intsE l]) () 0] (backL l) := by
 refine It.intro (ts := fun lY => [(0, .yv lY), (1, .ept (fun _ : Unit => [.sl intsE l]) () 0)]) (n := 19) (by kernel_rfl) Tryz.func283 rfl Tryz.ntmps283 rfl (fun _ => rfl) (by simp) (fun g w d ds Y lY hY => ?_)
 apply X.sr
 iterate 4 refine Ex.pu ?_
 apply Ex.nil
 apply X.block
 refine X.lp (ι := Nat) (fun (k : Nat) => [(0, .yv lY), (1, .ept (fun _ : Unit => [.sl intsE l]) () 0), (3, iv ((l.length : Int) - 1 - k))]) (fun (k : Nat) => [(1000000, .yld k true)]) (fun (k : Nat) => k <= l.length) (fun (k : Nat) => l.length - k) 0 (fun k hk => ?_)
 apply X.seq
 apply X.sr
 iterate 2 refine Ex.pu ?_
 apply Ex.nil
 refine X.cd rfl (fun hc1 => ?_) (fun hc1 => ?_)
 ·have hlt : k < l.length := by omega
  have hu : l[((l.length : Int) - 1 - k).toNat]? = some (l.getD (l.length - 1 - k) []) := by
   rw [show ((l.length : Int) - 1 - k).toNat = l.length - 1 - k by omega, List.getD_eq_getElem?_getD, List.getElem?_eq_getElem (by omega)]; rfl
  apply X.skip
  apply X.seq
  apply X.block
  apply X.sr
  iterate 6 refine Ex.pu ?_
  refine Ex.yield hY rfl rfl rfl (LeL.refl _) rfl rfl (backL_get hlt) rfl (fun b => ?_)
  refine Ex.pu ?_
  apply Ex.nil
  refine X.cd rfl (fun hc2 => ?_) (fun hc2 => ?_)
  ·refine X.ret ?_
   refine ⟨.inr rfl, _, b, rfl, fun hb => by simp_all⟩
  subst hc2
  apply X.skip
  apply X.region
  iterate 3 refine Ex.pu ?_
  apply Ex.nil
  refine ⟨k + 1, Imp.au, ?_, ?_⟩
  ·omega
  ·omega
 ·apply X.exit
  refine ⟨.inl rfl, k, true, rfl, fun _ => by rw [backL_len]; omega⟩
theorem C_slices_Backward_int_intL (l : List (List Int)) : Fn Tryz.prog 267 [listsA l] (.fn 283 [.ept (fun _ : Unit => [.sl intsE l]) () 0]) := by
 refine Fn.go Tryz.func267 Tryz.ntmps267 (fun g w d => ?_)
 apply X.sr
 refine Ex.bx ?_
 refine Ex.pu ?_
 apply Ex.ns
 iterate 2 refine Ex.pu ?_
 apply Ex.nil
 refine X.ret ?_
 refine RetQ.imp (Imp.freezeBox (k := 1) rfl rfl) ?_
 refine RetQ.ret (.one (.tmp rfl (LeV.eq ?_)))
 all_goals (first | rfl | (simp_all; done))
theorem of_row0 (L : List (List Int)) (n : Int) : List.replicate L.length 0 = List.replicate (L.length - 0) 0 ++ ofRow L n 0 := by simp [ofRow]
theorem of_rowN (L : List (List Int)) (n : Int) : List.replicate (L.length - L.length) 0 ++ ofRow L n L.length = ofD L n := by simp [ofD]
attribute [local irreducible] mnsD ofRow ofV ofL ofE ofD cntE cntV ckD
set_option maxHeartbeats 1000000 in
theorem C_dot_Of (m : Mn) (z : List Sg) (hl : z.length <= 1000) (n : Int) : Fn Tryz.prog 233 [mnA m, sgsA z, iv n] (.tup [intsA (ofL m z n), iv (ofE m z n)]) := by
 refine Fn.go Tryz.func233 Tryz.ntmps233 (fun g w d => ?_)
 apply X.sr
 refine Ex.ba ?_
 refine Ex.bx ?_
 iterate 2 refine Ex.pu ?_
 apply Ex.ns
 iterate 2 refine Ex.pu ?_
 refine Ex.ca (C_dot_Count m z hl) ?_
 iterate 5 refine Ex.pu ?_
 apply Ex.nil
 apply X.seq
 apply X.sr
 iterate 2 refine Ex.pu ?_
 apply Ex.nil
 refine X.cd rfl (fun hc1 => ?_) (fun hc1 => ?_)
 ·have hE : ofE m z n = cntE m z := by unfold ofE; rw [if_neg hc1]
  have hL : ofL m z n = [] := by unfold ofL; rw [if_neg (by rw [hE]; exact hc1)]
  apply X.sr
  iterate 3 refine Ex.pu ?_
  apply Ex.nil
  refine X.ret ?_
  refine RetQ.imp (Imp.au (ts := [(6, intsA []), (7, iv (cntE m z))]) (hs := [])) ?_
  refine RetQ.ret (.many (by decide) (.cons (.tmp rfl (LeV.eq ?_)) (.cons (.tmp rfl (LeV.eq ?_)) .nil)))
  all_goals (first | (simp [*]; done) | (rw [hE]; rfl) | (rw [hL, ← hrowN]; simp only [hbl]; rfl))
 have hck := cntE_ck hc1
 have hM := C_dot_Meanings m z hl
 rw [if_pos hck] at hM
 have hml := mnsD_len m z
 have hmp : ∀ x ∈ mnsD m z, 1 <= x.length := fun x hx => mnsD_pos hck hx
 have hcv := cntV_le (m := m) (l := z)
 apply X.skip
 apply X.seq
 apply X.sr
 iterate 2 refine Ex.pu ?_
 refine ExF.at 2 ?_
 refine ExF.pu ?_
 iterate 3 refine ExF.gi ?_
 refine ExF.done ?_
 refine Ex.pu ?_
 apply Ex.nil
 refine X.cd rfl (fun hc2 => ?_) (fun hc2 => ?_)
 ·have hE : ofE m z n = 2 := by unfold ofE; rw [if_pos hc1, if_pos (by omega)]
  have hL : ofL m z n = [] := by unfold ofL; rw [if_neg (by omega)]
  apply X.sr
  iterate 2 refine Ex.pu ?_
  apply Ex.nil
  refine X.ret ?_
  refine RetQ.imp (Imp.au (ts := [(6, intsA []), (7, iv 2)]) (hs := [])) ?_
  refine RetQ.ret (.many (by decide) (.cons (.tmp rfl (LeV.eq ?_)) (.cons (.tmp rfl (LeV.eq ?_)) .nil)))
  all_goals (first | (simp [*]; done) | (rw [hE]; rfl) | (rw [hL, ← hrowN]; simp only [hbl]; rfl))
 have hE : ofE m z n = 0 := by unfold ofE; rw [if_pos hc1, if_neg (by omega)]
 have hL : ofL m z n = ofD (mnsD m z) n := by unfold ofL; rw [if_pos hE]
 have hn0 : 0 <= n := by omega
 have hn1 : n <= 64 := by omega
 apply X.skip
 apply X.sr
 iterate 2 refine Ex.pu ?_
 refine Ex.ca hM ?_
 iterate 5 refine Ex.pu ?_
 apply Ex.ns
 iterate 2 refine Ex.pu ?_
 refine Ex.stepA (A_makeSlice (k := 39) (enc := intE) 0 sl27 ti3 rfl (by decide) rfl rfl rfl rfl (by omega) (fun _ => rfl) hz_int) rfl rfl ?_
 refine Ex.al ?_
 refine Ex.mo ?_
 apply Ex.nil
 apply X.seq
 apply X.sr
 refine Ex.pu ?_
 refine Ex.ca (C_slices_Backward_int_intL _) ?_
 apply Ex.nil
 apply X.block
 have hrow0 := of_row0 (mnsD m z) n
 have hrowN := of_rowN (mnsD m z) n
 have hbl := backL_len (mnsD m z)
 refine X.range (sl := [5, 12]) (fun j => ([.ptr 5 0 0 0, .ptr 12 0 0 0], [(5, .box [iv (ofN (mnsD m z) n j)] 3), (12, .box [.own 39] 27), (39, .row intE (List.replicate ((mnsD m z).length - j) 0 ++ ofRow (mnsD m z) n j) 3 1)])) (fun j => True) 900001 900002 rfl rfl (by decide) (fun j zs hj => by obtain ⟨_, rfl⟩ := backL_inv hj; rfl) (C_slices_Backward_int_int_1L (mnsD m z) (by omega)) trivial rfl rfl (by decide) (Nat.zero_le _) (by simp) (fun j zs hj => by obtain ⟨_, rfl⟩ := backL_inv hj; rfl) (fun _ => rfl) rfl rfl (fun l o us => Imp.au) (trivial) (fun j zs hj hJ l ready busy rb vs g w hb hyB => ?_) (fun hJ => ?_)
 ·obtain ⟨hj4, rfl⟩ := backL_inv hj
  obtain ⟨hN0, hN1⟩ := ofN_rng hn0 hn1 hmp j (by omega)
  have hxm : (mnsD m z).getD ((mnsD m z).length - 1 - j) [] ∈ mnsD m z := by
   rw [List.getD_eq_getElem?_getD, List.getElem?_eq_getElem (by omega)]; exact List.getElem_mem _
  have hx1 := hmp _ hxm
  have hx2 := mnsD_len2 hxm
  have hr0 : 0 <= ofN (mnsD m z) n j % (((mnsD m z).getD ((mnsD m z).length - 1 - j) []).length : Int) := Int.emod_nonneg _ (by omega)
  have hr1 : ofN (mnsD m z) n j % (((mnsD m z).getD ((mnsD m z).length - 1 - j) []).length : Int) < (((mnsD m z).getD ((mnsD m z).length - 1 - j) []).length : Int) := Int.emod_lt_of_pos _ (by omega)
  have hv : ((mnsD m z).getD ((mnsD m z).length - 1 - j) [])[(ofN (mnsD m z) n j % (((mnsD m z).getD ((mnsD m z).length - 1 - j) []).length : Int)).toNat]? = some (ofV (mnsD m z) n j) := by
   unfold ofV; rw [List.getD_eq_getElem?_getD (l := (mnsD m z).getD ((mnsD m z).length - 1 - j) []), List.getElem?_eq_getElem (by omega)]; rfl
  have hrl : (List.replicate ((mnsD m z).length - j) 0 ++ ofRow (mnsD m z) n j).length = (mnsD m z).length := by simp [ofRow_len]; omega
  have hset := of_set (n := n) hj4
  apply X.sr
  refine Ex.pu ?_
  apply Ex.nil
  apply X.region
  refine Ex.pu ?_
  apply Ex.nil
  refine ⟨rfl, rfl, ?_⟩
  apply X.block
  apply X.seq
  refine X.dw [44,45,46,47,48,49,50,51,52] [0,0,0,0,0,16,56,124,252,511,1023] mo ?_
  iterate 9 refine ChM.pu ?_
  refine ChM.tl ?_
  refine Ex.pu ?_
  refine Ex.mo ?_
  apply Ex.nil
  apply X.region
  iterate 4 refine Ex.pu ?_
  refine Ex.mo ?_
  apply Ex.nil
  refine ⟨[.ptr 5 0 0 0, .ptr 12 0 0 0], [(5, .box [iv (ofN (mnsD m z) n (j + 1))] 3), (12, .box [.own 39] 27), (39, .row intE (List.replicate ((mnsD m z).length - (j + 1)) 0 ++ ofRow (mnsD m z) n (j + 1)) 3 1)], Imp.au, rfl, trivial⟩
 apply X.sr
 iterate 3 refine Ex.pu ?_
 apply Ex.nil
 refine X.ret ?_
 refine RetQ.imp (Imp.freeze (k := 39) rfl) ?_
 refine RetQ.ret (.many (by decide) (.cons (.tmp rfl (LeV.eq ?_)) (.cons (.tmp rfl (LeV.eq ?_)) .nil)))
 all_goals (first | (simp [*]; done) | (rw [hE]; rfl) | (rw [hL, ← hrowN]; simp only [hbl]; rfl))
end Go.Rse
namespace Go.Rse
open Go Go.Proofs
attribute [local irreducible] Pur StepA StepM Ex X Fn Imp LeV LeB FnO It YStep
theorem fidx_mem (x : Int) (l : List Int) : decide (0 <= fidx (fun u => decide (x = u)) l) = decide (x ∈ l) := by
 by_cases h : x ∈ l
 ·have : l.findIdx (fun u => decide (x = u)) < l.length := List.findIdx_lt_length_of_exists ⟨x, h, by simp⟩
  simp only [fidx, if_pos this, h]; simp
 ·have h2 : l.findIdx (fun u => decide (x = u)) = l.length := List.findIdx_eq_length.2 fun u hu => decide_eq_false fun e => h (e ▸ hu)
  have : ¬ l.findIdx (fun u => decide (x = u)) < l.length := by omega
  simp only [fidx, if_neg this, h]; simp
theorem C_slices_Index_int_int (l : List Int) (x : Int) (hl : l.length <= 4000000000) : Fn Tryz.prog 205 [intsA l, iv x] (iv (fidx (fun u => decide (x = u)) l)) := by
 refine Fn.go Tryz.func205 Tryz.ntmps205 (fun g w d => ?_)
 apply X.sr
 refine Ex.pu ?_
 apply Ex.nil
 apply X.seq
 apply X.sr
 iterate 3 refine Ex.pu ?_
 apply Ex.nil
 apply X.block
 refine X.lp (ι := Nat) (fun (k : Nat) => [(0, intsA l), (1, iv x), (7, iv l.length), (8, iv (k : Int))]) (fun (k : Nat) => []) (fun (k : Nat) => k <= l.length /\ ∀ i u, i < k -> l[i]? = some u -> decide (x = u) = false) (fun (k : Nat) => l.length - k) 0 (fun k hk => ?_) (hJ := by
  exact ⟨by omega, fun i u h => absurd h (Nat.not_lt_zero i)⟩)
 obtain ⟨hk1, hk2⟩ := hk
 apply X.sr
 refine Ex.pu ?_
 apply Ex.nil
 apply X.seq
 refine X.cd rfl (fun hc1 => ?_) (fun hc1 => ?_)
 ·obtain ⟨v, hv⟩ : ∃ v, l[k]? = some v := ⟨_, List.getElem?_eq_getElem (by omega)⟩
  have hv2 : l[(k : Int).toNat]? = some v := by simpa using hv
  apply X.skip
  apply X.seq
  apply X.block
  apply X.sr
  iterate 2 refine Ex.pu ?_
  apply Ex.ns
  iterate 6 refine Ex.pu ?_
  apply Ex.nil
  refine X.cd rfl (fun hc2 => ?_) (fun hc2 => ?_)
  ·apply X.sr
   iterate 2 refine Ex.pu ?_
   apply Ex.nil
   refine X.ret ?_
   refine RetQ.ret (.one (.tmp rfl (LeV.eq ?_)))
   all_goals (congr 1; exact (fidx_hit hv (by simpa using hc2) hk2).symm)
  apply X.skip
  apply X.region
  iterate 2 refine Ex.pu ?_
  apply Ex.nil
  refine X.bk (k + 1) (hJ := by
   refine ⟨by omega, fun i u hi hu => ?_⟩
   rcases Nat.lt_succ_iff_lt_or_eq.1 hi with h | h
   ·exact hk2 i u h hu
   ·subst h; rw [hv] at hu; injection hu with hu; subst hu; simpa using hc2)
 ·apply X.exit
  apply X.sr
  refine Ex.pu ?_
  apply Ex.nil
  refine X.ret ?_
  refine RetQ.ret (.one (.tmp rfl (LeV.eq ?_)))
  all_goals (congr 1; exact (fidx_none (fun i u hi => hk2 i u (by omega))).symm)
theorem C_slices_Contains_int_int (l : List Int) (x : Int) (hl : l.length <= 4000000000) : Fn Tryz.prog 128 [intsA l, iv x] (.bool (decide (x ∈ l))) := by
 refine Fn.go Tryz.func128 Tryz.ntmps128 (fun g w d => ?_)
 apply X.sr
 refine Ex.pu ?_
 apply Ex.ns
 iterate 2 refine Ex.pu ?_
 refine Ex.ca (C_slices_Index_int_int l x hl) ?_
 iterate 2 refine Ex.pu ?_
 apply Ex.nil
 refine X.ret ?_
 refine RetQ.ret (.one (.tmp rfl (LeV.eq ?_)))
 all_goals (congr 1; exact fidx_mem x l)
theorem C_dot_Marks_1 (v : Int) (a : List Int) (b : List Bool) (ha : 1 <= a.length) (hb : 1 <= b.length) (ha2 : a.length <= 1000) (hb2 : b.length <= 1000) : FnO Tryz.prog 153 [iv v, .ptr 2000000 0 0 0, .ptr 2000001 0 0 0] [(2000000, .box [.own 2000002] 27), (2000001, .box [.own 2000003] 74), (2000002, .row intE a 3 1), (2000003, .row boolE b 4 1)] [2000000, 2000001, 2000002, 2000003] (.tup []) [(2000000, .box [.own 2000002] 27), (2000001, .box [.own 2000003] 74), (2000002, .row intE (a.set ((a.length : Int) - 1).toNat v) 3 1), (2000003, .row boolE (b.set ((b.length : Int) - 1).toNat (decide (v = 0))) 4 1)] := by
 refine FnO.intro (ts := [(0, iv v), (1, .ptr 2000000 0 0 0), (2, .ptr 2000001 0 0 0)]) (rv := []) (n := 17) (cs := [.ptr 2000000 0 0 0, .ptr 2000001 0 0 0, .own 2000002, .own 2000003]) (by kernel_rfl) Tryz.func153 rfl Tryz.ntmps153 rfl rfl (by simp) rfl rfl rfl rfl (fun g w d vs => ?_)
 refine X.drawP [⟨0, 4, .own 2000002, []⟩, ⟨1, 5, .own 2000002, []⟩, ⟨2, 6, iv a.length, [1]⟩, ⟨3, 7, iv ((a.length : Int) - 1), [1, 2]⟩, ⟨4, 8, .own 2000003, []⟩, ⟨5, 9, .own 2000003, []⟩, ⟨6, 10, iv b.length, [5]⟩, ⟨7, 11, iv ((b.length : Int) - 1), [5, 6]⟩, ⟨8, 12, iv v, []⟩, ⟨9, 13, iv v, []⟩, ⟨10, 14, .bool (decide (v = 0)), [9]⟩, ⟨11, 15, .ptr 2000002 1 ((a.length : Int) - 1).toNat 0, [8, 2, 1, 3, 0]⟩, ⟨13, 16, .ptr 2000003 1 ((b.length : Int) - 1).toNat 0, [12, 11, 10, 9, 8, 6, 5, 3, 2, 1, 0, 7, 4]⟩] [(12, [3, 2, 1, 0, 8, 11]), (14, [11, 9, 8, 7, 6, 5, 4, 3, 2, 1, 0, 12, 10, 13])] (fun j => ⟨[(0, iv v), (1, .ptr 2000000 0 0 0), (2, .ptr 2000001 0 0 0)], match j with | 0 => [(1000001, .hold vs [.ptr 2000000 0 0 0, .ptr 2000001 0 0 0, .own 2000002, .own 2000003]), (2000000, .box [.own 2000002] 27), (2000001, .box [.own 2000003] 74), (2000002, .row intE (a) 3 1), (2000003, .row boolE (b) 4 1)] | 1 => [(1000001, .hold vs [.ptr 2000000 0 0 0, .ptr 2000001 0 0 0, .own 2000002, .own 2000003]), (2000000, .box [.own 2000002] 27), (2000001, .box [.own 2000003] 74), (2000002, .row intE (a.set ((a.length : Int) - 1).toNat v) 3 1), (2000003, .row boolE (b) 4 1)] | _ => [(1000001, .hold vs [.ptr 2000000 0 0 0, .ptr 2000001 0 0 0, .own 2000002, .own 2000003]), (2000000, .box [.own 2000002] 27), (2000001, .box [.own 2000003] 74), (2000002, .row intE (a.set ((a.length : Int) - 1).toNat v) 3 1), (2000003, .row boolE (b.set ((b.length : Int) - 1).toNat (decide (v = 0))) 4 1)]⟩) mo (by kernel_rfl) (Imp.SP0 (Imp.au)) (fun j hj => ?_) (fun j c hc β hβ => ?_) ?_
 ·rcases j with _ | _ | _ | j
  ·first
    | refine ⟨.inr ⟨_, rfl, rfl, rfl, rfl, P_load_box rfl rfl rfl ty27⟩, ?_⟩
    | refine ⟨.inr ⟨_, rfl, rfl, rfl, rfl, P_load_ept rfl rfl rfl ty27⟩, ?_⟩
    | refine ⟨.inr ⟨_, rfl, rfl, rfl, rfl, P_load_row rfl rfl (by assumption) rfl rfl ty27⟩, ?_⟩
   first
    | refine ⟨.inr ⟨_, rfl, rfl, rfl, rfl, P_load_box rfl rfl rfl ty27⟩, ?_⟩
    | refine ⟨.inr ⟨_, rfl, rfl, rfl, rfl, P_load_ept rfl rfl rfl ty27⟩, ?_⟩
    | refine ⟨.inr ⟨_, rfl, rfl, rfl, rfl, P_load_row rfl rfl (by assumption) rfl rfl ty27⟩, ?_⟩
   first
    | refine ⟨.inr ⟨_, rfl, rfl, rfl, rfl, P_len_sl rfl sl27⟩, ?_⟩
    | refine ⟨.inr ⟨_, rfl, rfl, rfl, rfl, P_len_own rfl rfl sl27⟩, ?_⟩
    | refine ⟨.inr ⟨_, rfl, rfl, rfl, rfl, P_len_nils rfl sl27⟩, ?_⟩
   refine ⟨.inr ⟨_, rfl, rfl, rfl, rfl, P_sub rfl rfl (IntWalk.i64_in _ (by omega))⟩, ?_⟩
   first
    | refine ⟨.inr ⟨_, rfl, rfl, rfl, rfl, P_load_box rfl rfl rfl ty74⟩, ?_⟩
    | refine ⟨.inr ⟨_, rfl, rfl, rfl, rfl, P_load_ept rfl rfl rfl ty74⟩, ?_⟩
    | refine ⟨.inr ⟨_, rfl, rfl, rfl, rfl, P_load_row rfl rfl (by assumption) rfl rfl ty74⟩, ?_⟩
   first
    | refine ⟨.inr ⟨_, rfl, rfl, rfl, rfl, P_load_box rfl rfl rfl ty74⟩, ?_⟩
    | refine ⟨.inr ⟨_, rfl, rfl, rfl, rfl, P_load_ept rfl rfl rfl ty74⟩, ?_⟩
    | refine ⟨.inr ⟨_, rfl, rfl, rfl, rfl, P_load_row rfl rfl (by assumption) rfl rfl ty74⟩, ?_⟩
   first
    | refine ⟨.inr ⟨_, rfl, rfl, rfl, rfl, P_len_sl rfl sl74⟩, ?_⟩
    | refine ⟨.inr ⟨_, rfl, rfl, rfl, rfl, P_len_own rfl rfl sl74⟩, ?_⟩
    | refine ⟨.inr ⟨_, rfl, rfl, rfl, rfl, P_len_nils rfl sl74⟩, ?_⟩
   refine ⟨.inr ⟨_, rfl, rfl, rfl, rfl, P_sub rfl rfl (IntWalk.i64_in _ (by omega))⟩, ?_⟩
   refine ⟨.inr ⟨_, rfl, rfl, rfl, rfl, P_move rfl⟩, ?_⟩
   refine ⟨.inr ⟨_, rfl, rfl, rfl, rfl, P_move rfl⟩, ?_⟩
   refine ⟨.inr ⟨_, rfl, rfl, rfl, rfl, P_eql rfl rfl⟩, ?_⟩
   first
    | refine ⟨.inr ⟨_, rfl, rfl, rfl, rfl, P_index_sl rfl rfl sl27 ty3 (fun _ => rfl) (by omega) (by assumption)⟩, ?_⟩
    | refine ⟨.inr ⟨_, rfl, rfl, rfl, rfl, P_index_own rfl rfl rfl sl27 ty3 (by omega) (by omega)⟩, ?_⟩
   refine ⟨.inl rfl, ?_⟩
   exact True.intro
  ·refine ⟨.inl rfl, ?_⟩
   refine ⟨.inl rfl, ?_⟩
   refine ⟨.inl rfl, ?_⟩
   refine ⟨.inl rfl, ?_⟩
   first
    | refine ⟨.inr ⟨_, rfl, rfl, rfl, rfl, P_load_box rfl rfl rfl ty74⟩, ?_⟩
    | refine ⟨.inr ⟨_, rfl, rfl, rfl, rfl, P_load_ept rfl rfl rfl ty74⟩, ?_⟩
    | refine ⟨.inr ⟨_, rfl, rfl, rfl, rfl, P_load_row rfl rfl (by assumption) rfl rfl ty74⟩, ?_⟩
   first
    | refine ⟨.inr ⟨_, rfl, rfl, rfl, rfl, P_load_box rfl rfl rfl ty74⟩, ?_⟩
    | refine ⟨.inr ⟨_, rfl, rfl, rfl, rfl, P_load_ept rfl rfl rfl ty74⟩, ?_⟩
    | refine ⟨.inr ⟨_, rfl, rfl, rfl, rfl, P_load_row rfl rfl (by assumption) rfl rfl ty74⟩, ?_⟩
   first
    | refine ⟨.inr ⟨_, rfl, rfl, rfl, rfl, P_len_sl rfl sl74⟩, ?_⟩
    | refine ⟨.inr ⟨_, rfl, rfl, rfl, rfl, P_len_own rfl rfl sl74⟩, ?_⟩
    | refine ⟨.inr ⟨_, rfl, rfl, rfl, rfl, P_len_nils rfl sl74⟩, ?_⟩
   refine ⟨.inr ⟨_, rfl, rfl, rfl, rfl, P_sub rfl rfl (IntWalk.i64_in _ (by omega))⟩, ?_⟩
   refine ⟨.inl rfl, ?_⟩
   refine ⟨.inr ⟨_, rfl, rfl, rfl, rfl, P_move rfl⟩, ?_⟩
   refine ⟨.inr ⟨_, rfl, rfl, rfl, rfl, P_eql rfl rfl⟩, ?_⟩
   refine ⟨.inl rfl, ?_⟩
   first
    | refine ⟨.inr ⟨_, rfl, rfl, rfl, rfl, P_index_sl rfl rfl sl74 ty4 (fun _ => rfl) (by omega) (by assumption)⟩, ?_⟩
    | refine ⟨.inr ⟨_, rfl, rfl, rfl, rfl, P_index_own rfl rfl rfl sl74 ty4 (by omega) (by omega)⟩, ?_⟩
   exact True.intro
  ·refine ⟨.inl rfl, ?_⟩
   refine ⟨.inl rfl, ?_⟩
   refine ⟨.inl rfl, ?_⟩
   refine ⟨.inl rfl, ?_⟩
   refine ⟨.inl rfl, ?_⟩
   refine ⟨.inl rfl, ?_⟩
   refine ⟨.inl rfl, ?_⟩
   refine ⟨.inl rfl, ?_⟩
   refine ⟨.inl rfl, ?_⟩
   refine ⟨.inl rfl, ?_⟩
   refine ⟨.inl rfl, ?_⟩
   refine ⟨.inl rfl, ?_⟩
   refine ⟨.inl rfl, ?_⟩
   exact True.intro
  ·exact absurd (show j + 3 <= 2 from hj) (by omega)
 ·rcases j with _ | _ | j
  ·obtain rfl : (12, [3, 2, 1, 0, 8, 11]) = c := by injection hc
   refine Step1.mk rfl (StepM.pre (st0 := ⟨[(4, .own 2000002), (5, .own 2000002), (6, iv a.length), (7, iv ((a.length : Int) - 1)), (8, .ifb (β 4) (.own 2000003)), (9, .ifb (β 5) (.own 2000003)), (10, .ifb (β 6) (iv b.length)), (11, .ifb (β 7) (iv ((b.length : Int) - 1))), (12, iv v), (13, .ifb (β 9) (iv v)), (14, .ifb (β 10) (.bool (decide (v = 0)))), (15, .ptr 2000002 1 ((a.length : Int) - 1).toNat 0), (16, .ifb (β 13) (.ptr 2000003 1 ((b.length : Int) - 1).toNat 0)), (0, iv v), (1, .ptr 2000000 0 0 0), (2, .ptr 2000001 0 0 0)], [(1000001, .hold vs [.ptr 2000000 0 0 0, .ptr 2000001 0 0 0, .own 2000002, .own 2000003]), (2000000, .box [.own 2000002] 27), (2000001, .box [.own 2000003] 74), (2000002, .row intE (a) 3 1), (2000003, .row boolE (b) 4 1)]⟩) (Imp.ib) ?_)
   refine StepM.imp (M_store_row v rfl rfl (fun _ => rfl) (by decide) (by omega) rfl rfl rfl rfl rfl ty3) (Imp.ib)
  ·obtain rfl : (14, [11, 9, 8, 7, 6, 5, 4, 3, 2, 1, 0, 12, 10, 13]) = c := by injection hc
   refine Step1.mk rfl (StepM.pre (st0 := ⟨[(4, .own 2000002), (5, .own 2000002), (6, iv a.length), (7, iv ((a.length : Int) - 1)), (8, .own 2000003), (9, .own 2000003), (10, iv b.length), (11, iv ((b.length : Int) - 1)), (12, iv v), (13, iv v), (14, .bool (decide (v = 0))), (15, .ptr 2000002 1 ((a.length : Int) - 1).toNat 0), (16, .ptr 2000003 1 ((b.length : Int) - 1).toNat 0), (0, iv v), (1, .ptr 2000000 0 0 0), (2, .ptr 2000001 0 0 0)], [(1000001, .hold vs [.ptr 2000000 0 0 0, .ptr 2000001 0 0 0, .own 2000002, .own 2000003]), (2000000, .box [.own 2000002] 27), (2000001, .box [.own 2000003] 74), (2000002, .row intE (a.set ((a.length : Int) - 1).toNat v) 3 1), (2000003, .row boolE (b) 4 1)]⟩) (Imp.ib) ?_)
   refine StepM.imp (M_store_row (decide (v = 0)) rfl rfl (fun _ => rfl) (by decide) (by omega) rfl rfl rfl rfl rfl ty4) (Imp.ib)
  ·exact absurd hc (by simp)
 refine RetQO.mk (ts := []) (.inl rfl) (Imp.au) (.many (by decide) .nil)
end Go.Rse
namespace Go.Rse
open Go Go.Proofs
attribute [local irreducible] Pur StepA StepM Ex X Fn Imp LeV LeB FnO It YStep
def mkK (ch : List Int) (l : List Sg) : Nat -> List Int × List Bool × Nat
 | 0 => ([], [], 0)
 | k + 1 => match l[k]? with
  | some s => if s.Kind = 3 then ((mkK ch l k).1.set (((mkK ch l k).1.length : Int) - 1).toNat (ch.getD (mkK ch l k).2.2 0), (mkK ch l k).2.1.set (((mkK ch l k).2.1.length : Int) - 1).toNat (decide (ch.getD (mkK ch l k).2.2 0 = 0)), (mkK ch l k).2.2 + 1) else ((mkK ch l k).1 ++ [0], (mkK ch l k).2.1 ++ [false], (mkK ch l k).2.2)
  | none => mkK ch l k
theorem mkK_dot {ch : List Int} {l : List Sg} {k : Nat} {s : Sg} (h : l[k]? = some s) (h3 : s.Kind = 3) : mkK ch l (k + 1) = ((mkK ch l k).1.set (((mkK ch l k).1.length : Int) - 1).toNat (ch.getD (mkK ch l k).2.2 0), (mkK ch l k).2.1.set (((mkK ch l k).2.1.length : Int) - 1).toNat (decide (ch.getD (mkK ch l k).2.2 0 = 0)), (mkK ch l k).2.2 + 1) := by
 simp only [mkK, h, if_pos h3]
theorem mkK_note {ch : List Int} {l : List Sg} {k : Nat} {s : Sg} (h : l[k]? = some s) (h3 : ¬ s.Kind = 3) : mkK ch l (k + 1) = ((mkK ch l k).1 ++ [0], (mkK ch l k).2.1 ++ [false], (mkK ch l k).2.2) := by
 simp only [mkK, h, if_neg h3]
theorem mkK_len (ch : List Int) (l : List Sg) : ∀ k, (mkK ch l k).1.length = (mkK ch l k).2.1.length /\ (mkK ch l k).1.length <= k /\ (mkK ch l k).2.2 = (dotsK l k).length
 | 0 => ⟨rfl, Nat.le_refl _, rfl⟩
 | k + 1 => by
  obtain ⟨h1, h2, h3⟩ := mkK_len ch l k
  cases hs : l[k]? with
  | none => simp only [mkK, dotsK, hs, List.append_nil]; exact ⟨h1, by omega, h3⟩
  | some s =>
   by_cases hK : s.Kind = 3
   ·rw [mkK_dot hs hK]; simp [dotsK, hs, hK]; omega
   ·rw [mkK_note hs hK]; simp [dotsK, hs, hK]; omega
theorem dotsK_mono (l : List Sg) : ∀ (n k : Nat), k <= n -> (dotsK l k).length <= (dotsK l n).length
 | 0, k, h => by have : k = 0 := by omega
                 subst this; exact Nat.le_refl _
 | n + 1, k, h => by
  rcases Nat.lt_or_ge n k with h1 | h1
  ·have : k = n + 1 := by omega
   subst this; exact Nat.le_refl _
  ·have := dotsK_mono l n k h1
   simp only [dotsK, List.length_append]; omega
theorem mkK_pos {m : Mn} {ch : List Int} {l : List Sg} (h : ckFrom m l 0 l = 0) : ∀ k, 1 <= k -> k <= l.length -> 1 <= (mkK ch l k).1.length
 | 0, h1, _ => by omega
 | k + 1, _, hk => by
  obtain ⟨s, hs⟩ : ∃ s, l[k]? = some s := ⟨_, List.getElem?_eq_getElem (by omega)⟩
  by_cases hK : s.Kind = 3
  ·rw [mkK_dot hs hK]
   simp only [List.length_set]
   rcases Nat.eq_zero_or_pos k with h0 | h0
   ·subst h0
    have := (ckFrom_all h 1 hk).2 0 s (by omega) hs
    unfold sgF at this
    rw [if_neg (by omega), if_pos hK] at this
    simp at this
   ·exact mkK_pos h k h0 (by omega)
  ·rw [mkK_note hs hK]; simp
theorem dot_pos {m : Mn} {l : List Sg} (h : ckFrom m l 0 l = 0) {k : Nat} {s : Sg} (hs : l[k]? = some s) (hK : s.Kind = 3) : 1 <= k := by
 rcases Nat.eq_zero_or_pos k with h0 | h0
 ·subst h0
  have := (ckFrom_all h 1 (List.getElem?_eq_some_iff.1 hs).1).2 0 s (by omega) hs
  unfold sgF at this
  rw [if_neg (by omega), if_pos hK] at this
  simp at this
 ·exact h0
theorem ckD_from {m : Mn} {l : List Sg} (h : ckD m l = 0) : ckFrom m l 0 l = 0 := by
 unfold ckD at h; split at h
 ·exact h
 ·exact absurd h (by assumption)
def chOk (ch : List Int) (L : List (List Int)) : Prop := ((L.zip ch).all fun p => decide (p.2 ∈ p.1)) = true
instance (ch : List Int) (L : List (List Int)) : Decidable (chOk ch L) := inferInstanceAs (Decidable (_ = true))
theorem chOk_iff {ch : List Int} {L : List (List Int)} : chOk ch L ↔ ∀ (i : Nat) x v, L[i]? = some x -> ch[i]? = some v -> v ∈ x := by
 unfold chOk
 rw [List.all_eq_true]
 constructor
 ·intro h i x v hx hv
  have := h (x, v) (List.mem_iff_getElem?.2 ⟨i, List.getElem?_zip_eq_some.2 ⟨hx, hv⟩⟩)
  simpa using this
 ·rintro h ⟨x, v⟩ hp
  obtain ⟨i, hi⟩ := List.mem_iff_getElem?.1 hp
  obtain ⟨h1, h2⟩ := List.getElem?_zip_eq_some.1 hi
  simpa using h i x v h1 h2
def mkE (m : Mn) (l : List Sg) (ch : List Int) : Int := if ckD m l = 0 then (if (mnsD m l).length = ch.length /\ chOk ch (mnsD m l) then 0 else 2) else ckD m l
def mkC (m : Mn) (l : List Sg) (ch : List Int) : List Int := if mkE m l ch = 0 then (mkK ch l l.length).1 else []
def mkA (m : Mn) (l : List Sg) (ch : List Int) : List Bool := if mkE m l ch = 0 then (mkK ch l l.length).2.1 else []
set_option maxHeartbeats 4000000 in
theorem C_dot_Marks (m : Mn) (l : List Sg) (hl : l.length <= 1000) (ch : List Int) : Fn Tryz.prog 85 [mnA m, sgsA l, intsA ch] (.tup [intsA (mkC m l ch), boolsA (mkA m l ch), iv (mkE m l ch)]) := by
 obtain ⟨L0, hX, hM⟩ : ∃ L0, (ckD m l = 0 -> L0 = mnsD m l) /\ Fn Tryz.prog 148 [mnA m, sgsA l] (.tup [listsA L0, iv (ckD m l)]) := ⟨_, fun h => if_pos h, C_dot_Meanings m l hl⟩
 refine Fn.go Tryz.func85 Tryz.ntmps85 (fun g w d => ?_)
 apply X.sr
 refine Ex.ba ?_
 iterate 3 refine Ex.pu ?_
 apply Ex.ns
 iterate 2 refine Ex.pu ?_
 refine Ex.ca hM ?_
 iterate 5 refine Ex.pu ?_
 apply Ex.nil
 apply X.seq
 apply X.sr
 iterate 2 refine Ex.pu ?_
 apply Ex.nil
 refine X.cd rfl (fun hc1 => ?_) (fun hc1 => ?_)
 ·have hE : mkE m l ch = ckD m l := by unfold mkE; rw [if_neg hc1]
  have hC : mkC m l ch = [] := by unfold mkC; rw [if_neg (by rw [hE]; exact hc1)]
  have hA : mkA m l ch = [] := by unfold mkA; rw [if_neg (by rw [hE]; exact hc1)]
  apply X.sr
  iterate 4 refine Ex.pu ?_
  apply Ex.nil
  refine X.ret ?_
  refine RetQ.imp (Imp.au (ts := [(6, intsA []), (7, boolsA []), (8, iv (ckD m l))]) (hs := [])) ?_
  refine RetQ.ret (.many (by decide) (.cons (.tmp rfl (LeV.eq ?_)) (.cons (.tmp rfl (LeV.eq ?_)) (.cons (.tmp rfl (LeV.eq ?_)) .nil))))
  all_goals (first | (rw [hC]; done) | (rw [hA]; done) | (rw [hE]; done) | (rw [hC]; rfl) | (rw [hA]; rfl) | (rw [hE]; rfl))
 have hX2 := hX hc1
 subst hX2
 have hml := mnsD_len m l
 have hcf := ckD_from hc1
 have hdl : (mnsD m l).length = (dotsK l l.length).length := by simp [mnsD]
 apply X.skip
 apply X.seq
 apply X.sr
 iterate 5 refine Ex.pu ?_
 apply Ex.nil
 refine X.cd rfl (fun hc2 => ?_) (fun hc2 => ?_)
 ·have hE : mkE m l ch = 2 := by unfold mkE; rw [if_pos hc1, if_neg (fun h => by have := h.1; omega)]
  have hC : mkC m l ch = [] := by unfold mkC; rw [if_neg (by omega)]
  have hA : mkA m l ch = [] := by unfold mkA; rw [if_neg (by omega)]
  apply X.sr
  iterate 3 refine Ex.pu ?_
  apply Ex.nil
  refine X.ret ?_
  refine RetQ.imp (Imp.au (ts := [(6, intsA []), (7, boolsA []), (8, iv 2)]) (hs := [])) ?_
  refine RetQ.ret (.many (by decide) (.cons (.tmp rfl (LeV.eq ?_)) (.cons (.tmp rfl (LeV.eq ?_)) (.cons (.tmp rfl (LeV.eq ?_)) .nil))))
  all_goals (first | (rw [hC]; done) | (rw [hA]; done) | (rw [hE]; done) | (rw [hC]; rfl) | (rw [hA]; rfl) | (rw [hE]; rfl))
 apply X.skip
 apply X.seq
 apply X.sr
 iterate 3 refine Ex.pu ?_
 apply Ex.nil
 apply X.block
 refine X.lp (ι := Nat) (fun (k : Nat) => [(1, sgsA l), (2, intsA ch), (9, listsA (mnsD m l)), (33, listsA (mnsD m l)), (34, iv (mnsD m l).length), (35, iv (k : Int))]) (fun (k : Nat) => []) (fun (k : Nat) => k <= (mnsD m l).length /\ ∀ i, i < k -> ∀ x v, (mnsD m l)[i]? = some x -> ch[i]? = some v -> v ∈ x) (fun (k : Nat) => (mnsD m l).length - k) 0 (fun k hk => ?_) (hJ := by
  exact ⟨by omega, fun i h => absurd h (Nat.not_lt_zero i)⟩)
 obtain ⟨hk1, hk2⟩ := hk
 apply X.sr
 refine Ex.pu ?_
 apply Ex.nil
 apply X.seq
 refine X.cd rfl (fun hc3 => ?_) (fun hc3 => ?_)
 ·obtain ⟨x, hx⟩ : ∃ x, (mnsD m l)[k]? = some x := ⟨_, List.getElem?_eq_getElem (by omega)⟩
  have hx2 : (mnsD m l)[(k : Int).toNat]? = some x := by simpa using hx
  obtain ⟨c, hcc⟩ : ∃ c, ch[k]? = some c := ⟨_, List.getElem?_eq_getElem (by omega)⟩
  have hcc2 : ch[(k : Int).toNat]? = some c := by simpa using hcc
  have hxl := mnsD_len2 (List.mem_of_getElem? hx)
  apply X.skip
  apply X.seq
  apply X.block
  apply X.sr
  iterate 5 refine Ex.pu ?_
  apply Ex.ns
  iterate 5 refine Ex.pu ?_
  refine Ex.ca (C_slices_Contains_int_int x c (by omega)) ?_
  refine Ex.pu ?_
  apply Ex.nil
  refine X.cd rfl (fun hc4 => ?_) (fun hc4 => ?_)
  ·have hE : mkE m l ch = 2 := by unfold mkE; rw [if_pos hc1, if_neg (fun h => hc4 (chOk_iff.1 h.2 k x c hx hcc))]
   have hC : mkC m l ch = [] := by unfold mkC; rw [if_neg (by omega)]
   have hA : mkA m l ch = [] := by unfold mkA; rw [if_neg (by omega)]
   apply X.sr
   iterate 3 refine Ex.pu ?_
   apply Ex.nil
   refine X.ret ?_
   refine RetQ.imp (Imp.au (ts := [(6, intsA []), (7, boolsA []), (8, iv 2)]) (hs := [])) ?_
   refine RetQ.ret (.many (by decide) (.cons (.tmp rfl (LeV.eq ?_)) (.cons (.tmp rfl (LeV.eq ?_)) (.cons (.tmp rfl (LeV.eq ?_)) .nil))))
   all_goals (first | (rw [hC]; done) | (rw [hA]; done) | (rw [hE]; done) | (rw [hC]; rfl) | (rw [hA]; rfl) | (rw [hE]; rfl))
  apply X.skip
  apply X.region
  iterate 2 refine Ex.pu ?_
  apply Ex.nil
  refine X.bk (k + 1) (hJ := by
   refine ⟨by omega, fun i hi x1 v1 h1 h2 => ?_⟩
   rcases Nat.lt_succ_iff_lt_or_eq.1 hi with h | h
   ·exact hk2 i h x1 v1 h1 h2
   ·subst h; rw [hx] at h1; rw [hcc] at h2; injection h1 with h1; injection h2 with h2; subst h1; subst h2; exact hc4)
 ·have hok : chOk ch (mnsD m l) := chOk_iff.2 fun i x v hx hv => hk2 i (by have := (List.getElem?_eq_some_iff.1 hx).1; omega) x v hx hv
  have hE : mkE m l ch = 0 := by unfold mkE; rw [if_pos hc1, if_pos ⟨by omega, hok⟩]
  have hC : mkC m l ch = (mkK ch l l.length).1 := by unfold mkC; rw [if_pos hE]
  have hA : mkA m l ch = (mkK ch l l.length).2.1 := by unfold mkA; rw [if_pos hE]
  apply X.exit
  apply X.sr
  refine Ex.al ?_
  apply Ex.ns
  refine Ex.al ?_
  apply Ex.nil
  apply X.seq
  refine X.imp (Imp.mkrowB intE 3 1 13 101 27 rfl rfl) ?_
  refine X.imp (Imp.mkrowB boolE 4 1 14 102 74 rfl rfl) ?_
  apply X.region
  iterate 2 refine Ex.pu ?_
  apply Ex.ns
  refine Ex.pu ?_
  apply Ex.nil
  apply X.seq
  apply X.sr
  iterate 3 refine Ex.pu ?_
  apply Ex.nil
  apply X.block
  refine X.lp (ι := Nat) (fun (k : Nat) => [(2, intsA ch), (13, .ptr 13 0 0 0), (14, .ptr 14 0 0 0), (15, .fn 153 [.ptr 13 0 0 0, .ptr 14 0 0 0]), (16, iv ((mkK ch l k).2.2 : Int)), (49, sgsA l), (50, iv l.length), (51, iv (k : Int))]) (fun (k : Nat) => [(13, .box [.own 101] 27), (14, .box [.own 102] 74), (101, .row intE (mkK ch l k).1 3 1), (102, .row boolE (mkK ch l k).2.1 4 1)]) (fun (k : Nat) => k <= l.length) (fun (k : Nat) => l.length - k) 0 (fun k hk => ?_)
  apply X.sr
  refine Ex.pu ?_
  apply Ex.nil
  apply X.seq
  refine X.cd rfl (fun hc5 => ?_) (fun hc5 => ?_)
  ·obtain ⟨s, hs⟩ : ∃ s, l[k]? = some s := ⟨_, List.getElem?_eq_getElem (by omega)⟩
   have hs2 : l[(k : Int).toNat]? = some s := by simpa using hs
   obtain ⟨hm1, hm2, hm3⟩ := mkK_len ch l k
   apply X.skip
   apply X.seq
   apply X.block
   apply X.sr
   iterate 2 refine Ex.pu ?_
   refine Ex.al ?_
   refine Ex.mo ?_
   apply Ex.nil
   apply X.seq
   apply X.sr
   iterate 3 refine Ex.pu ?_
   apply Ex.nil
   refine X.cd rfl (fun hc6 => ?_) (fun hc6 => ?_)
   ·have h6 := mkK_dot (ch := ch) hs hc6
    have hmo := dotsK_mono l l.length (k + 1) (by omega)
    have hdk : (dotsK l (k + 1)).length = (dotsK l k).length + 1 := by simp [dotsK, hs, hc6]
    have hkp := dot_pos hcf hs hc6
    have hpos := mkK_pos (ch := ch) hcf k hkp (by omega)
    have hcq : ch[((mkK ch l k).2.2 : Int).toNat]? = some (ch.getD (mkK ch l k).2.2 0) := by rw [Int.toNat_natCast, List.getD_eq_getElem?_getD, List.getElem?_eq_getElem (by omega)]; rfl
    have hr1 : (mkK ch l k).1.set (((mkK ch l k).1.length : Int) - 1).toNat (ch.getD (mkK ch l k).2.2 0) = (mkK ch l (k + 1)).1 := by rw [h6]
    have hr2 : (mkK ch l k).2.1.set (((mkK ch l k).2.1.length : Int) - 1).toNat (decide (ch.getD (mkK ch l k).2.2 0 = 0)) = (mkK ch l (k + 1)).2.1 := by rw [h6]
    have hq1 : ((mkK ch l k).2.2 : Int) + 1 = ((mkK ch l (k + 1)).2.2 : Int) := by rw [h6]; simp
    apply X.sr
    iterate 5 refine Ex.pu ?_
    refine Ex.callO' [(2000000, 13), (2000001, 14), (2000002, 101), (2000003, 102)] (C_dot_Marks_1 (ch.getD (mkK ch l k).2.2 0) (mkK ch l k).1 (mkK ch l k).2.1 (by omega) (by omega) (by omega) (by omega)) rfl rfl rfl (LeL.refl _) rfl rfl ⟨⟨_, _, rfl, rfl, LeB.refl _, rfl⟩, ⟨_, _, rfl, rfl, LeB.refl _, rfl⟩, ⟨_, _, rfl, rfl, LeB.refl _, rfl⟩, ⟨_, _, rfl, rfl, LeB.refl _, rfl⟩, trivial⟩ rfl rfl rfl rfl ?_
    apply Ex.ns
    iterate 3 refine Ex.pu ?_
    apply Ex.nil
    apply X.exit
    apply X.region
    iterate 2 refine Ex.pu ?_
    apply Ex.nil
    refine X.bk (k + 1)
   have h6 := mkK_note (ch := ch) hs hc6
   have hr1 : (mkK ch l k).1 ++ [0] = (mkK ch l (k + 1)).1 := by rw [h6]
   have hr2 : (mkK ch l k).2.1 ++ [false] = (mkK ch l (k + 1)).2.1 := by rw [h6]
   have hq1 : ((mkK ch l k).2.2 : Int) = ((mkK ch l (k + 1)).2.2 : Int) := by rw [h6]
   apply X.skip
   refine X.drawN' [⟨[(2, intsA ch), (13, .ptr 13 0 0 0), (14, .ptr 14 0 0 0), (15, .fn 153 [.ptr 13 0 0 0, .ptr 14 0 0 0]), (16, iv ((mkK ch l k).2.2 : Int)), (49, sgsA l), (50, iv l.length), (51, iv (k : Int))], [(13, .box [.own 101] 27), (14, .box [.own 102] 74), (101, .row intE ((mkK ch l k).1) 3 1), (102, .row boolE ((mkK ch l k).2.1) 4 1)]⟩, ⟨[(2, intsA ch), (13, .ptr 13 0 0 0), (14, .ptr 14 0 0 0), (15, .fn 153 [.ptr 13 0 0 0, .ptr 14 0 0 0]), (16, iv ((mkK ch l k).2.2 : Int)), (49, sgsA l), (50, iv l.length), (51, iv (k : Int)), (66, .own 101)], [(13, .box [.own 101] 27), (14, .box [.own 102] 74), (101, .row intE ((mkK ch l k).1) 3 1), (102, .row boolE ((mkK ch l k).2.1) 4 1)]⟩, ⟨[(2, intsA ch), (13, .ptr 13 0 0 0), (14, .ptr 14 0 0 0), (15, .fn 153 [.ptr 13 0 0 0, .ptr 14 0 0 0]), (16, iv ((mkK ch l k).2.2 : Int)), (49, sgsA l), (50, iv l.length), (51, iv (k : Int)), (67, .own 67)], [(67, .row intE [0] 3 1), (13, .box [.own 101] 27), (14, .box [.own 102] 74), (101, .row intE ((mkK ch l k).1) 3 1), (102, .row boolE ((mkK ch l k).2.1) 4 1)]⟩, ⟨[(2, intsA ch), (13, .ptr 13 0 0 0), (14, .ptr 14 0 0 0), (15, .fn 153 [.ptr 13 0 0 0, .ptr 14 0 0 0]), (16, iv ((mkK ch l k).2.2 : Int)), (49, sgsA l), (50, iv l.length), (51, iv (k : Int)), (69, .own 102)], [(13, .box [.own 101] 27), (14, .box [.own 102] 74), (101, .row intE ((mkK ch l k).1) 3 1), (102, .row boolE ((mkK ch l k).2.1) 4 1)]⟩, ⟨[(2, intsA ch), (13, .ptr 13 0 0 0), (14, .ptr 14 0 0 0), (15, .fn 153 [.ptr 13 0 0 0, .ptr 14 0 0 0]), (16, iv ((mkK ch l k).2.2 : Int)), (49, sgsA l), (50, iv l.length), (51, iv (k : Int)), (70, .own 70)], [(70, .row boolE [false] 4 1), (13, .box [.own 101] 27), (14, .box [.own 102] 74), (101, .row intE ((mkK ch l k).1) 3 1), (102, .row boolE ((mkK ch l k).2.1) 4 1)]⟩, ⟨[(2, intsA ch), (13, .ptr 13 0 0 0), (14, .ptr 14 0 0 0), (15, .fn 153 [.ptr 13 0 0 0, .ptr 14 0 0 0]), (16, iv ((mkK ch l k).2.2 : Int)), (49, sgsA l), (50, iv l.length), (51, iv (k : Int)), (66, .own 101), (67, .own 67)], [(67, .row intE [0] 3 1), (13, .box [.own 101] 27), (14, .box [.own 102] 74), (101, .row intE ((mkK ch l k).1) 3 1), (102, .row boolE ((mkK ch l k).2.1) 4 1)]⟩, ⟨[(2, intsA ch), (13, .ptr 13 0 0 0), (14, .ptr 14 0 0 0), (15, .fn 153 [.ptr 13 0 0 0, .ptr 14 0 0 0]), (16, iv ((mkK ch l k).2.2 : Int)), (49, sgsA l), (50, iv l.length), (51, iv (k : Int)), (66, .own 101), (69, .own 102)], [(13, .box [.own 101] 27), (14, .box [.own 102] 74), (101, .row intE ((mkK ch l k).1) 3 1), (102, .row boolE ((mkK ch l k).2.1) 4 1)]⟩, ⟨[(2, intsA ch), (13, .ptr 13 0 0 0), (14, .ptr 14 0 0 0), (15, .fn 153 [.ptr 13 0 0 0, .ptr 14 0 0 0]), (16, iv ((mkK ch l k).2.2 : Int)), (49, sgsA l), (50, iv l.length), (51, iv (k : Int)), (66, .own 101), (70, .own 70)], [(70, .row boolE [false] 4 1), (13, .box [.own 101] 27), (14, .box [.own 102] 74), (101, .row intE ((mkK ch l k).1) 3 1), (102, .row boolE ((mkK ch l k).2.1) 4 1)]⟩, ⟨[(2, intsA ch), (13, .ptr 13 0 0 0), (14, .ptr 14 0 0 0), (15, .fn 153 [.ptr 13 0 0 0, .ptr 14 0 0 0]), (16, iv ((mkK ch l k).2.2 : Int)), (49, sgsA l), (50, iv l.length), (51, iv (k : Int)), (67, .own 67), (69, .own 102)], [(67, .row intE [0] 3 1), (13, .box [.own 101] 27), (14, .box [.own 102] 74), (101, .row intE ((mkK ch l k).1) 3 1), (102, .row boolE ((mkK ch l k).2.1) 4 1)]⟩, ⟨[(2, intsA ch), (13, .ptr 13 0 0 0), (14, .ptr 14 0 0 0), (15, .fn 153 [.ptr 13 0 0 0, .ptr 14 0 0 0]), (16, iv ((mkK ch l k).2.2 : Int)), (49, sgsA l), (50, iv l.length), (51, iv (k : Int)), (67, .own 67), (70, .own 70)], [(67, .row intE [0] 3 1), (70, .row boolE [false] 4 1), (13, .box [.own 101] 27), (14, .box [.own 102] 74), (101, .row intE ((mkK ch l k).1) 3 1), (102, .row boolE ((mkK ch l k).2.1) 4 1)]⟩, ⟨[(2, intsA ch), (13, .ptr 13 0 0 0), (14, .ptr 14 0 0 0), (15, .fn 153 [.ptr 13 0 0 0, .ptr 14 0 0 0]), (16, iv ((mkK ch l k).2.2 : Int)), (49, sgsA l), (50, iv l.length), (51, iv (k : Int)), (69, .own 102), (70, .own 70)], [(70, .row boolE [false] 4 1), (13, .box [.own 101] 27), (14, .box [.own 102] 74), (101, .row intE ((mkK ch l k).1) 3 1), (102, .row boolE ((mkK ch l k).2.1) 4 1)]⟩, ⟨[(2, intsA ch), (13, .ptr 13 0 0 0), (14, .ptr 14 0 0 0), (15, .fn 153 [.ptr 13 0 0 0, .ptr 14 0 0 0]), (16, iv ((mkK ch l k).2.2 : Int)), (49, sgsA l), (50, iv l.length), (51, iv (k : Int)), (68, .own 101)], [(13, .box [.any] 27), (14, .box [.own 102] 74), (101, .row intE ((mkK ch l k).1 ++ [0]) 3 1), (102, .row boolE ((mkK ch l k).2.1) 4 1)]⟩, ⟨[(2, intsA ch), (13, .ptr 13 0 0 0), (14, .ptr 14 0 0 0), (15, .fn 153 [.ptr 13 0 0 0, .ptr 14 0 0 0]), (16, iv ((mkK ch l k).2.2 : Int)), (49, sgsA l), (50, iv l.length), (51, iv (k : Int)), (66, .own 101), (67, .own 67), (69, .own 102)], [(67, .row intE [0] 3 1), (13, .box [.own 101] 27), (14, .box [.own 102] 74), (101, .row intE ((mkK ch l k).1) 3 1), (102, .row boolE ((mkK ch l k).2.1) 4 1)]⟩, ⟨[(2, intsA ch), (13, .ptr 13 0 0 0), (14, .ptr 14 0 0 0), (15, .fn 153 [.ptr 13 0 0 0, .ptr 14 0 0 0]), (16, iv ((mkK ch l k).2.2 : Int)), (49, sgsA l), (50, iv l.length), (51, iv (k : Int)), (66, .own 101), (67, .own 67), (70, .own 70)], [(67, .row intE [0] 3 1), (70, .row boolE [false] 4 1), (13, .box [.own 101] 27), (14, .box [.own 102] 74), (101, .row intE ((mkK ch l k).1) 3 1), (102, .row boolE ((mkK ch l k).2.1) 4 1)]⟩, ⟨[(2, intsA ch), (13, .ptr 13 0 0 0), (14, .ptr 14 0 0 0), (15, .fn 153 [.ptr 13 0 0 0, .ptr 14 0 0 0]), (16, iv ((mkK ch l k).2.2 : Int)), (49, sgsA l), (50, iv l.length), (51, iv (k : Int)), (66, .own 101), (69, .own 102), (70, .own 70)], [(70, .row boolE [false] 4 1), (13, .box [.own 101] 27), (14, .box [.own 102] 74), (101, .row intE ((mkK ch l k).1) 3 1), (102, .row boolE ((mkK ch l k).2.1) 4 1)]⟩, ⟨[(2, intsA ch), (13, .ptr 13 0 0 0), (14, .ptr 14 0 0 0), (15, .fn 153 [.ptr 13 0 0 0, .ptr 14 0 0 0]), (16, iv ((mkK ch l k).2.2 : Int)), (49, sgsA l), (50, iv l.length), (51, iv (k : Int)), (67, .own 67), (69, .own 102), (70, .own 70)], [(67, .row intE [0] 3 1), (70, .row boolE [false] 4 1), (13, .box [.own 101] 27), (14, .box [.own 102] 74), (101, .row intE ((mkK ch l k).1) 3 1), (102, .row boolE ((mkK ch l k).2.1) 4 1)]⟩, ⟨[(2, intsA ch), (13, .ptr 13 0 0 0), (14, .ptr 14 0 0 0), (15, .fn 153 [.ptr 13 0 0 0, .ptr 14 0 0 0]), (16, iv ((mkK ch l k).2.2 : Int)), (49, sgsA l), (50, iv l.length), (51, iv (k : Int)), (68, .own 101), (69, .own 102)], [(13, .box [.any] 27), (14, .box [.own 102] 74), (101, .row intE ((mkK ch l k).1 ++ [0]) 3 1), (102, .row boolE ((mkK ch l k).2.1) 4 1)]⟩, ⟨[(2, intsA ch), (13, .ptr 13 0 0 0), (14, .ptr 14 0 0 0), (15, .fn 153 [.ptr 13 0 0 0, .ptr 14 0 0 0]), (16, iv ((mkK ch l k).2.2 : Int)), (49, sgsA l), (50, iv l.length), (51, iv (k : Int)), (68, .own 101), (70, .own 70)], [(70, .row boolE [false] 4 1), (13, .box [.any] 27), (14, .box [.own 102] 74), (101, .row intE ((mkK ch l k).1 ++ [0]) 3 1), (102, .row boolE ((mkK ch l k).2.1) 4 1)]⟩, ⟨[(2, intsA ch), (13, .ptr 13 0 0 0), (14, .ptr 14 0 0 0), (15, .fn 153 [.ptr 13 0 0 0, .ptr 14 0 0 0]), (16, iv ((mkK ch l k).2.2 : Int)), (49, sgsA l), (50, iv l.length), (51, iv (k : Int)), (66, .own 101), (67, .own 67), (69, .own 102), (70, .own 70)], [(67, .row intE [0] 3 1), (70, .row boolE [false] 4 1), (13, .box [.own 101] 27), (14, .box [.own 102] 74), (101, .row intE ((mkK ch l k).1) 3 1), (102, .row boolE ((mkK ch l k).2.1) 4 1)]⟩, ⟨[(2, intsA ch), (13, .ptr 13 0 0 0), (14, .ptr 14 0 0 0), (15, .fn 153 [.ptr 13 0 0 0, .ptr 14 0 0 0]), (16, iv ((mkK ch l k).2.2 : Int)), (49, sgsA l), (50, iv l.length), (51, iv (k : Int)), (68, .own 101), (69, .own 102), (70, .own 70)], [(70, .row boolE [false] 4 1), (13, .box [.any] 27), (14, .box [.own 102] 74), (101, .row intE ((mkK ch l k).1 ++ [0]) 3 1), (102, .row boolE ((mkK ch l k).2.1) 4 1)]⟩, ⟨[(2, intsA ch), (13, .ptr 13 0 0 0), (14, .ptr 14 0 0 0), (15, .fn 153 [.ptr 13 0 0 0, .ptr 14 0 0 0]), (16, iv ((mkK ch l k).2.2 : Int)), (49, sgsA l), (50, iv l.length), (51, iv (k : Int)), (68, .own 101), (71, .own 102)], [(13, .box [.any] 27), (14, .box [.any] 74), (101, .row intE ((mkK ch l k).1 ++ [0]) 3 1), (102, .row boolE ((mkK ch l k).2.1 ++ [false]) 4 1)]⟩, ⟨[(2, intsA ch), (13, .ptr 13 0 0 0), (14, .ptr 14 0 0 0), (15, .fn 153 [.ptr 13 0 0 0, .ptr 14 0 0 0]), (16, iv ((mkK ch l k).2.2 : Int)), (49, sgsA l), (50, iv l.length), (51, iv (k : Int)), (71, .own 102)], [(13, .box [.own 101] 27), (14, .box [.any] 74), (101, .row intE ((mkK ch l k).1 ++ [0]) 3 1), (102, .row boolE ((mkK ch l k).2.1 ++ [false]) 4 1)]⟩, ⟨[(2, intsA ch), (13, .ptr 13 0 0 0), (14, .ptr 14 0 0 0), (15, .fn 153 [.ptr 13 0 0 0, .ptr 14 0 0 0]), (16, iv ((mkK ch l k).2.2 : Int)), (49, sgsA l), (50, iv l.length), (51, iv (k : Int))], [(13, .box [.own 101] 27), (14, .box [.own 102] 74), (101, .row intE ((mkK ch l k).1 ++ [0]) 3 1), (102, .row boolE ((mkK ch l k).2.1 ++ [false]) 4 1)]⟩] [[false, false, false, false, false, false, false, false], [true, false, false, false, false, false, false, false], [false, true, false, false, false, false, false, false], [false, false, false, true, false, false, false, false], [false, false, false, false, true, false, false, false], [true, true, false, false, false, false, false, false], [true, false, false, true, false, false, false, false], [true, false, false, false, true, false, false, false], [false, true, false, true, false, false, false, false], [false, true, false, false, true, false, false, false], [false, false, false, true, true, false, false, false], [true, true, true, false, false, false, false, false], [true, true, false, true, false, false, false, false], [true, true, false, false, true, false, false, false], [true, false, false, true, true, false, false, false], [false, true, false, true, true, false, false, false], [true, true, true, true, false, false, false, false], [true, true, true, false, true, false, false, false], [true, true, false, true, true, false, false, false], [true, true, true, true, true, false, false, false], [true, true, true, true, true, true, false, false], [true, true, true, true, true, true, true, false], [true, true, true, true, true, true, true, true]] [(0, 0, 1), (0, 1, 2), (0, 3, 3), (0, 4, 4), (1, 1, 5), (1, 3, 6), (1, 4, 7), (2, 0, 5), (2, 3, 8), (2, 4, 9), (3, 0, 6), (3, 1, 8), (3, 4, 10), (4, 0, 7), (4, 1, 9), (4, 3, 10), (5, 2, 11), (5, 3, 12), (5, 4, 13), (6, 1, 12), (6, 4, 14), (7, 1, 13), (7, 3, 14), (8, 0, 12), (8, 4, 15), (9, 0, 13), (9, 3, 15), (10, 0, 14), (10, 1, 15), (11, 3, 16), (11, 4, 17), (12, 2, 16), (12, 4, 18), (13, 2, 17), (13, 3, 18), (14, 1, 18), (15, 0, 18), (16, 4, 19), (17, 3, 19), (18, 2, 19), (19, 5, 20), (20, 6, 21), (21, 7, 22)] 22 mo rfl rfl Imp.au (by kernel_rfl) rfl (by kernel_rfl) rfl ?_ ?_
   ·refine ⟨⟨_, _, rfl, rfl, Step1.mk rfl (StepM.imp (StepA.toM (Pur.stepA (P_load_box rfl rfl rfl ty27)) rfl rfl) Imp.au)⟩, ?_⟩
    refine ⟨⟨_, _, rfl, rfl, Step1.mk rfl (StepM.imp (StepA.toM (A_buildSlice (k := 67) (enc := intE) (l := [0]) sl27 ty3 ze3 (by decide) rfl rfl rfl rfl (by decide) (by decide) (fun _ => rfl) rfl) rfl rfl) Imp.au)⟩, ?_⟩
    refine ⟨⟨_, _, rfl, rfl, Step1.mk rfl (StepM.imp (StepA.toM (Pur.stepA (P_load_box rfl rfl rfl ty74)) rfl rfl) Imp.au)⟩, ?_⟩
    refine ⟨⟨_, _, rfl, rfl, Step1.mk rfl (StepM.imp (StepA.toM (A_buildSlice (k := 70) (enc := boolE) (l := [false]) sl74 ty4 ze4 (by decide) rfl rfl rfl rfl (by decide) (by decide) (fun _ => rfl) rfl) rfl rfl) Imp.au)⟩, ?_⟩
    refine ⟨⟨_, _, rfl, rfl, Step1.mk rfl (StepM.imp (StepA.toM (A_buildSlice (k := 67) (enc := intE) (l := [0]) sl27 ty3 ze3 (by decide) rfl rfl rfl rfl (by decide) (by decide) (fun _ => rfl) rfl) rfl rfl) Imp.au)⟩, ?_⟩
    refine ⟨⟨_, _, rfl, rfl, Step1.mk rfl (StepM.imp (StepA.toM (Pur.stepA (P_load_box rfl rfl rfl ty74)) rfl rfl) Imp.au)⟩, ?_⟩
    refine ⟨⟨_, _, rfl, rfl, Step1.mk rfl (StepM.imp (StepA.toM (A_buildSlice (k := 70) (enc := boolE) (l := [false]) sl74 ty4 ze4 (by decide) rfl rfl rfl rfl (by decide) (by decide) (fun _ => rfl) rfl) rfl rfl) Imp.au)⟩, ?_⟩
    refine ⟨⟨_, _, rfl, rfl, Step1.mk rfl (StepM.imp (StepA.toM (Pur.stepA (P_load_box rfl rfl rfl ty27)) rfl rfl) Imp.au)⟩, ?_⟩
    refine ⟨⟨_, _, rfl, rfl, Step1.mk rfl (StepM.imp (StepA.toM (Pur.stepA (P_load_box rfl rfl rfl ty74)) rfl rfl) Imp.au)⟩, ?_⟩
    refine ⟨⟨_, _, rfl, rfl, Step1.mk rfl (StepM.imp (StepA.toM (A_buildSlice (k := 70) (enc := boolE) (l := [false]) sl74 ty4 ze4 (by decide) rfl rfl rfl rfl (by decide) (by decide) (fun _ => rfl) rfl) rfl rfl) Imp.au)⟩, ?_⟩
    refine ⟨⟨_, _, rfl, rfl, Step1.mk rfl (StepM.imp (StepA.toM (Pur.stepA (P_load_box rfl rfl rfl ty27)) rfl rfl) Imp.au)⟩, ?_⟩
    refine ⟨⟨_, _, rfl, rfl, Step1.mk rfl (StepM.imp (StepA.toM (A_buildSlice (k := 67) (enc := intE) (l := [0]) sl27 ty3 ze3 (by decide) rfl rfl rfl rfl (by decide) (by decide) (fun _ => rfl) rfl) rfl rfl) Imp.au)⟩, ?_⟩
    refine ⟨⟨_, _, rfl, rfl, Step1.mk rfl (StepM.imp (StepA.toM (A_buildSlice (k := 70) (enc := boolE) (l := [false]) sl74 ty4 ze4 (by decide) rfl rfl rfl rfl (by decide) (by decide) (fun _ => rfl) rfl) rfl rfl) Imp.au)⟩, ?_⟩
    refine ⟨⟨_, _, rfl, rfl, Step1.mk rfl (StepM.imp (StepA.toM (Pur.stepA (P_load_box rfl rfl rfl ty27)) rfl rfl) Imp.au)⟩, ?_⟩
    refine ⟨⟨_, _, rfl, rfl, Step1.mk rfl (StepM.imp (StepA.toM (A_buildSlice (k := 67) (enc := intE) (l := [0]) sl27 ty3 ze3 (by decide) rfl rfl rfl rfl (by decide) (by decide) (fun _ => rfl) rfl) rfl rfl) Imp.au)⟩, ?_⟩
    refine ⟨⟨_, _, rfl, rfl, Step1.mk rfl (StepM.imp (StepA.toM (Pur.stepA (P_load_box rfl rfl rfl ty74)) rfl rfl) Imp.au)⟩, ?_⟩
    refine ⟨⟨_, _, rfl, rfl, Step1.mk rfl (StepM.imp (M_append_own (enc := intE) (l := (mkK ch l k).1) (l2 := [0]) rfl rfl rfl rfl sl27 ti3 (by decide) (by decide) (fun _ => rfl) (fun _ => rfl) (by simp; omega) rfl) Imp.au)⟩, ?_⟩
    refine ⟨⟨_, _, rfl, rfl, Step1.mk rfl (StepM.imp (StepA.toM (Pur.stepA (P_load_box rfl rfl rfl ty74)) rfl rfl) Imp.au)⟩, ?_⟩
    refine ⟨⟨_, _, rfl, rfl, Step1.mk rfl (StepM.imp (StepA.toM (A_buildSlice (k := 70) (enc := boolE) (l := [false]) sl74 ty4 ze4 (by decide) rfl rfl rfl rfl (by decide) (by decide) (fun _ => rfl) rfl) rfl rfl) Imp.au)⟩, ?_⟩
    refine ⟨⟨_, _, rfl, rfl, Step1.mk rfl (StepM.imp (StepA.toM (A_buildSlice (k := 67) (enc := intE) (l := [0]) sl27 ty3 ze3 (by decide) rfl rfl rfl rfl (by decide) (by decide) (fun _ => rfl) rfl) rfl rfl) Imp.au)⟩, ?_⟩
    refine ⟨⟨_, _, rfl, rfl, Step1.mk rfl (StepM.imp (StepA.toM (A_buildSlice (k := 70) (enc := boolE) (l := [false]) sl74 ty4 ze4 (by decide) rfl rfl rfl rfl (by decide) (by decide) (fun _ => rfl) rfl) rfl rfl) Imp.au)⟩, ?_⟩
    refine ⟨⟨_, _, rfl, rfl, Step1.mk rfl (StepM.imp (StepA.toM (A_buildSlice (k := 67) (enc := intE) (l := [0]) sl27 ty3 ze3 (by decide) rfl rfl rfl rfl (by decide) (by decide) (fun _ => rfl) rfl) rfl rfl) Imp.au)⟩, ?_⟩
    refine ⟨⟨_, _, rfl, rfl, Step1.mk rfl (StepM.imp (StepA.toM (Pur.stepA (P_load_box rfl rfl rfl ty74)) rfl rfl) Imp.au)⟩, ?_⟩
    refine ⟨⟨_, _, rfl, rfl, Step1.mk rfl (StepM.imp (StepA.toM (Pur.stepA (P_load_box rfl rfl rfl ty27)) rfl rfl) Imp.au)⟩, ?_⟩
    refine ⟨⟨_, _, rfl, rfl, Step1.mk rfl (StepM.imp (StepA.toM (A_buildSlice (k := 70) (enc := boolE) (l := [false]) sl74 ty4 ze4 (by decide) rfl rfl rfl rfl (by decide) (by decide) (fun _ => rfl) rfl) rfl rfl) Imp.au)⟩, ?_⟩
    refine ⟨⟨_, _, rfl, rfl, Step1.mk rfl (StepM.imp (StepA.toM (Pur.stepA (P_load_box rfl rfl rfl ty27)) rfl rfl) Imp.au)⟩, ?_⟩
    refine ⟨⟨_, _, rfl, rfl, Step1.mk rfl (StepM.imp (StepA.toM (Pur.stepA (P_load_box rfl rfl rfl ty74)) rfl rfl) Imp.au)⟩, ?_⟩
    refine ⟨⟨_, _, rfl, rfl, Step1.mk rfl (StepM.imp (StepA.toM (Pur.stepA (P_load_box rfl rfl rfl ty27)) rfl rfl) Imp.au)⟩, ?_⟩
    refine ⟨⟨_, _, rfl, rfl, Step1.mk rfl (StepM.imp (StepA.toM (A_buildSlice (k := 67) (enc := intE) (l := [0]) sl27 ty3 ze3 (by decide) rfl rfl rfl rfl (by decide) (by decide) (fun _ => rfl) rfl) rfl rfl) Imp.au)⟩, ?_⟩
    refine ⟨⟨_, _, rfl, rfl, Step1.mk rfl (StepM.imp (StepA.toM (Pur.stepA (P_load_box rfl rfl rfl ty74)) rfl rfl) Imp.au)⟩, ?_⟩
    refine ⟨⟨_, _, rfl, rfl, Step1.mk rfl (StepM.imp (StepA.toM (A_buildSlice (k := 70) (enc := boolE) (l := [false]) sl74 ty4 ze4 (by decide) rfl rfl rfl rfl (by decide) (by decide) (fun _ => rfl) rfl) rfl rfl) Imp.au)⟩, ?_⟩
    refine ⟨⟨_, _, rfl, rfl, Step1.mk rfl (StepM.imp (M_append_own (enc := intE) (l := (mkK ch l k).1) (l2 := [0]) rfl rfl rfl rfl sl27 ti3 (by decide) (by decide) (fun _ => rfl) (fun _ => rfl) (by simp; omega) rfl) Imp.au)⟩, ?_⟩
    refine ⟨⟨_, _, rfl, rfl, Step1.mk rfl (StepM.imp (StepA.toM (A_buildSlice (k := 70) (enc := boolE) (l := [false]) sl74 ty4 ze4 (by decide) rfl rfl rfl rfl (by decide) (by decide) (fun _ => rfl) rfl) rfl rfl) Imp.au)⟩, ?_⟩
    refine ⟨⟨_, _, rfl, rfl, Step1.mk rfl (StepM.imp (M_append_own (enc := intE) (l := (mkK ch l k).1) (l2 := [0]) rfl rfl rfl rfl sl27 ti3 (by decide) (by decide) (fun _ => rfl) (fun _ => rfl) (by simp; omega) rfl) Imp.au)⟩, ?_⟩
    refine ⟨⟨_, _, rfl, rfl, Step1.mk rfl (StepM.imp (StepA.toM (Pur.stepA (P_load_box rfl rfl rfl ty74)) rfl rfl) Imp.au)⟩, ?_⟩
    refine ⟨⟨_, _, rfl, rfl, Step1.mk rfl (StepM.imp (StepA.toM (A_buildSlice (k := 67) (enc := intE) (l := [0]) sl27 ty3 ze3 (by decide) rfl rfl rfl rfl (by decide) (by decide) (fun _ => rfl) rfl) rfl rfl) Imp.au)⟩, ?_⟩
    refine ⟨⟨_, _, rfl, rfl, Step1.mk rfl (StepM.imp (StepA.toM (Pur.stepA (P_load_box rfl rfl rfl ty27)) rfl rfl) Imp.au)⟩, ?_⟩
    refine ⟨⟨_, _, rfl, rfl, Step1.mk rfl (StepM.imp (StepA.toM (A_buildSlice (k := 70) (enc := boolE) (l := [false]) sl74 ty4 ze4 (by decide) rfl rfl rfl rfl (by decide) (by decide) (fun _ => rfl) rfl) rfl rfl) Imp.au)⟩, ?_⟩
    refine ⟨⟨_, _, rfl, rfl, Step1.mk rfl (StepM.imp (StepA.toM (Pur.stepA (P_load_box rfl rfl rfl ty74)) rfl rfl) Imp.au)⟩, ?_⟩
    refine ⟨⟨_, _, rfl, rfl, Step1.mk rfl (StepM.imp (M_append_own (enc := intE) (l := (mkK ch l k).1) (l2 := [0]) rfl rfl rfl rfl sl27 ti3 (by decide) (by decide) (fun _ => rfl) (fun _ => rfl) (by simp; omega) rfl) Imp.au)⟩, ?_⟩
    refine ⟨⟨_, _, rfl, rfl, Step1.mk rfl (StepM.imp (M_append_own (enc := boolE) (l := (mkK ch l k).2.1) (l2 := [false]) rfl rfl rfl rfl sl74 ti4 (by decide) (by decide) (fun _ => rfl) (fun _ => rfl) (by simp; omega) rfl) Imp.au)⟩, ?_⟩
    refine ⟨⟨_, _, rfl, rfl, Step1.mk rfl (StepM.imp (M_store rfl rfl rfl rfl ty27 (ltB rfl)) Imp.au)⟩, ?_⟩
    refine ⟨⟨_, _, rfl, rfl, Step1.mk rfl (StepM.imp (M_store rfl rfl rfl rfl ty74 (ltB rfl)) Imp.au)⟩, ?_⟩
    exact True.intro
   apply X.region
   iterate 2 refine Ex.pu ?_
   apply Ex.nil
   refine X.bk (k + 1)
  ·have hkl : k = l.length := by omega
   subst hkl
   apply X.exit
   apply X.seq
   refine X.dw [6,7,8,73,74] [0,0,1,7,15] mo ?_
   iterate 5 refine ChM.pu ?_
   refine ChM.tl ?_
   apply Ex.nil
   refine X.ret ?_
   refine RetQ.imp ((Imp.freeze (k := 101) rfl).trans (Imp.freeze (k := 102) rfl)) ?_
   refine RetQ.ret (.many (by decide) (.cons (.tmp rfl (LeV.eq ?_)) (.cons (.tmp rfl (LeV.eq ?_)) (.cons (.tmp rfl (LeV.eq ?_)) .nil))))
   all_goals (first | (rw [hC]; done) | (rw [hA]; done) | (rw [hE]; done) | (rw [hC]; rfl) | (rw [hA]; rfl) | (rw [hE]; rfl))
end Go.Rse
