/-
  Walks: the statement on equal notes.
-/
import Derived.Test.YtfiiobachmglpaaGreatDoorSLaw17e
set_option linter.unusedSimpArgs false
set_option linter.unusedVariables false
namespace Go.Rse
open Go Go.Proofs
attribute [local irreducible] Pur StepA StepM Ex X ExG Fn Imp LeV LeB FnO It YStep FnW FnOW FnP FnD
def gtK (L : List Int) : Nat -> Int
 | 0 => 9
 | k + 1 => min (gtK L k) (L.getD k 0)
def pfK (L : List Int) (w : Int) : Nat -> Bool
 | 0 => false
 | k + 1 => pfK L w k || decide (L.getD k 0 = w)
theorem gt_s {L : List Int} {k : Nat} {x : Int} (h : L[k]? = some x) : min (gtK L k) x = gtK L (k + 1) := by
 show _ = min (gtK L k) (L.getD k 0); rw [List.getD_eq_getElem?_getD, h]; rfl
theorem pf_s {L : List Int} {w : Int} {k : Nat} {x : Int} (h : L[k]? = some x) : (pfK L w k || decide (x = w)) = pfK L w (k + 1) := by
 show _ = (pfK L w k || decide (L.getD k 0 = w)); rw [List.getD_eq_getElem?_getD, h]; rfl
theorem ev_t {R : List Bool} {w : Int} {k : Nat} (h : R[k]? = some true) : (R.take k).map (evS w) ++ [⟨2, w, 0, 0, false, 0, false, false, ⟨0, 0, 0, 0⟩, false, 0, 0, 0, 0⟩] = (R.take (k + 1)).map (evS w) := by
 rw [List.take_add_one, h]; simp; rfl
theorem ev_f {R : List Bool} {w : Int} {k : Nat} (h : R[k]? = some false) : (R.take k).map (evS w) ++ [⟨1, w, 0, 0, false, 0, false, false, ⟨0, 0, 0, 0⟩, false, 0, 0, 0, 0⟩] = (R.take (k + 1)).map (evS w) := by
 rw [List.take_add_one, h]; simp; rfl
theorem rep_s (t : Tm) (k : Nat) : List.replicate k t ++ [t] = List.replicate (k + 1) t := by rw [List.replicate_succ']
theorem C_ev_reads {m : Mn} {w : Int} {R : List Bool} (hM : ckM m = 0) (h1 : 1 <= w) (h8 : w <= 8) (hl : R.length <= 30) : Fn Tryz.prog 42 [mnA m, sgsA ((R.take R.length).map (evS w)), tmsA (List.replicate R.length (fullT m w))] (.bool true) := by
 rw [List.take_length]
 obtain ⟨e1, e2⟩ := ev_reads hM h1 h8 hl
 have h := C_rule_Reads m (R.map (evS w)) (List.replicate R.length (fullT m w)) (by rw [List.length_map]; omega)
 rw [e1, e2] at h
 simpa using h
attribute [local irreducible] rdE rdV perfL fullT gtK pfK evS
set_option maxHeartbeats 8000000 in
set_option maxRecDepth 100000 in
theorem C_tactuslaw17_RuleEven (n v : Int) (R : List Bool) (hn : -9223372036854775808 <= n /\ n <= 9223372036854775807) (hv : -9223372036854775808 <= v /\ v <= 9223372036854775807) : Fn Tryz.prog 9 [iv n, iv v, boolsA R] (.bool true) := by
 have hm := C_tactuskit_Mens n hn
 have hM := mMk_ck n
 generalize mMk n = m at hm hM
 have hL := C_mens_Levels m
 rw [hM, if_pos rfl] at hL
 have hFu := C_mens_FullV (m := m) (v := 1 + v % 8) hM (by omega) (by omega)
 have hp4 := pfl_len m
 have hg0 : gtK (perfL m) 0 = 9 := by unfold gtK; rfl
 have hq0 : false = pfK (perfL m) (1 + v % 8) 0 := by unfold pfK; rfl
 refine Fn.go Tryz.func9 Tryz.ntmps9 (fun g w d => ?_)
 apply X.sr
 refine Ex.pu ?_
 apply Ex.ns
 refine Ex.ca C_tactuslaw17_RuleKnown ?_
 refine Ex.pu ?_
 apply Ex.nil
 apply X.seq
 apply X.sr
 iterate 3 refine Ex.pu ?_
 apply Ex.nil
 refine X.cd rfl (fun hc1 => ?_) (fun hc1 => ?_)
 ·apply X.sr
  iterate 2 refine Ex.pu ?_
  apply Ex.nil
  refine X.ret ?_
  refine RetQ.ret (.one (.tmp rfl (LeV.eq ?_)))
  all_goals (first | rfl | simp)
 apply X.skip
 apply X.sr
 refine Ex.pu ?_
 refine Ex.ca hm ?_
 refine Ex.al ?_
 refine Ex.mo ?_
 apply Ex.ns
 refine Ex.pu ?_
 refine Ex.ca (C_tactuskit_Mod v 8 hv (by omega)) ?_
 iterate 2 refine Ex.pu ?_
 apply Ex.ns
 refine Ex.pu ?_
 refine Ex.ca hL ?_
 iterate 5 refine Ex.pu ?_
 apply Ex.ns
 iterate 2 refine Ex.pu ?_
 refine Ex.ca hFu ?_
 iterate 3 refine Ex.pu ?_
 refine Ex.al ?_
 refine Ex.mo ?_
 refine Ex.pu ?_
 apply Ex.nil
 apply X.seq
 apply X.sr
 iterate 2 refine Ex.pu ?_
 refine ExF.at 2 ?_
 refine ExF.pu ?_
 iterate 2 refine ExF.gi ?_
 refine ExF.done ?_
 refine Ex.pu ?_
 apply Ex.nil
 refine X.cd rfl (fun hc2 => ?_) (fun hc2 => ?_)
 ·(first | (simp at hc2; done) | omega)
 apply X.skip
 apply X.sr
 refine Ex.pu ?_
 apply Ex.ns
 refine Ex.pu ?_
 apply Ex.nil
 apply X.seq
 apply X.sr
 refine Ex.pu ?_
 apply Ex.nil
 apply X.block
 refine X.lp (ι := Nat) (fun (k : Nat) => [(1, iv (1 + v % 8)), (2, boolsA R), (7, .bool true), (8, .ptr 8 0 0 0), (9, intsA (perfL m)), (11, .ptr 11 0 0 0), (13, iv (gtK (perfL m) k)), (14, .bool (pfK (perfL m) (1 + v % 8) k)), (15, iv (k : Int))]) (fun (k : Nat) => [(8, .box (mnE m) 23), (11, .box (tmE (fullT m (1 + v % 8))) 60)]) (fun (k : Nat) => k <= (perfL m).length) (fun (k : Nat) => (perfL m).length - k) 0 (fun k hk => ?_) (h0 := by
  exact Imp.ax)
 apply X.seq
 apply X.sr
 iterate 4 refine Ex.pu ?_
 apply Ex.nil
 refine X.cd rfl (fun hc3 => ?_) (fun hc3 => ?_)
 ·obtain ⟨x, hx⟩ : ∃ x, (perfL m)[k]? = some x := ⟨_, List.getElem?_eq_getElem (by omega)⟩
  have hx2 : (perfL m)[(k : Int).toNat]? = some x := by simpa using hx
  have hgs := gt_s hx
  have hps := pf_s (w := 1 + v % 8) hx
  apply X.skip
  apply X.seq
  apply X.block
  apply X.sr
  iterate 5 refine Ex.pu ?_
  refine Ex.pur (P_min rfl rfl) rfl ?_
  refine Ex.pu ?_
  apply Ex.nil
  apply X.region
  refine Ex.pu ?_
  refine ExF.at 1 ?_
  refine ExF.pu ?_
  iterate 6 refine ExF.gi ?_
  refine ExF.done ?_
  iterate 2 refine Ex.pu ?_
  apply Ex.nil
  apply X.region
  iterate 3 refine Ex.pu ?_
  apply Ex.nil
  refine X.bk (k + 1) (hI := Imp.ax)
 ·apply X.exit
  apply X.seq
  apply X.sr
  iterate 2 refine Ex.pu ?_
  refine ExF.at 2 ?_
  refine ExF.pu ?_
  iterate 3 refine ExF.gi ?_
  refine ExF.done ?_
  refine Ex.pu ?_
  apply Ex.nil
  refine X.cd rfl (fun hc4 => ?_) (fun hc4 => ?_)
  ·apply X.sr
   iterate 2 refine Ex.pu ?_
   apply Ex.nil
   refine X.ret ?_
   refine RetQ.ret (.one (.tmp rfl (LeV.eq ?_)))
   all_goals (first | rfl | simp)
  apply X.skip
  apply X.sr
  refine Ex.pu ?_
  apply Ex.ns
  refine Ex.pu ?_
  apply Ex.nil
  apply X.seq
  apply X.seq
  refine X.imp (Imp.mkrow sgE 67 17 16 30 rfl rfl) ?_
  refine X.imp (Imp.mkrow tmE 60 2 17 31 rfl rfl) ?_
  apply X.region
  refine Ex.pu ?_
  apply Ex.nil
  apply X.block
  refine X.lp (ι := Nat) (fun (j : Nat) => [(1, iv (1 + v % 8)), (2, boolsA R), (7, .bool true), (8, .ptr 8 0 0 0), (11, .ptr 11 0 0 0), (16, .own 30), (17, .own 31), (18, iv (j : Int))]) (fun (j : Nat) => [(8, .box (mnE m) 23), (11, .box (tmE (fullT m (1 + v % 8))) 60), (30, .row sgE ((R.take j).map (evS (1 + v % 8))) 67 17), (31, .row tmE (List.replicate j (fullT m (1 + v % 8))) 60 2)]) (fun (j : Nat) => j <= R.length) (fun (j : Nat) => R.length - j) 0 (fun j hk => ?_) (h0 := by
   exact Imp.ax)
  apply X.seq
  apply X.sr
  iterate 4 refine Ex.pu ?_
  apply Ex.nil
  refine X.cd rfl (fun hc5 => ?_) (fun hc5 => ?_)
  ·obtain ⟨r, hr⟩ : ∃ r, R[j]? = some r := ⟨_, List.getElem?_eq_getElem (by omega)⟩
   have hr2 : R[(j : Int).toNat]? = some r := by simpa using hr
   have hrp := rep_s (fullT m (1 + v % 8)) j
   have hl1 : ((R.take j).map (evS (1 + v % 8))).length <= 1000 := by rw [List.length_map, List.length_take]; omega
   have hl2 : (List.replicate j (fullT m (1 + v % 8))).length <= 1000 := by rw [List.length_replicate]; omega
   apply X.skip
   apply X.seq
   apply X.block
   apply X.sr
   iterate 2 refine Ex.pu ?_
   refine Ex.al ?_
   refine Ex.mo ?_
   apply Ex.nil
   apply X.seq
   apply X.sr
   iterate 4 refine Ex.pu ?_
   apply Ex.nil
   refine X.cd rfl (fun hc6 => ?_) (fun hc6 => ?_)
   ·have hrt : r = true := by simpa using hc6
    subst hrt
    have hev := ev_t (w := (1 + v % 8)) hr
    apply X.region
    refine Ex.pu ?_
    refine Ex.mo ?_
    apply Ex.ns
    iterate 2 refine Ex.pu ?_
    refine Ex.bs sgE [⟨_, _, _, _, _, _, _, _, ⟨_, _, _, _⟩, _, _, _, _, _⟩] ?_
    refine Ex.mo ?_
    refine Ex.pu ?_
    apply Ex.nil
    apply X.region
    iterate 2 refine Ex.pu ?_
    refine Ex.bs tmE [fullT m (1 + v % 8)] ?_
    refine Ex.mo ?_
    refine Ex.pu ?_
    apply Ex.nil
    apply X.region
    iterate 3 refine Ex.pu ?_
    apply Ex.nil
    refine X.bk (j + 1) (hI := Imp.ax)
   ·have hrf : r = false := by simpa using hc6
    subst hrf
    have hev := ev_f (w := (1 + v % 8)) hr
    apply X.skip
    apply X.sr
    iterate 2 refine Ex.pu ?_
    refine Ex.bs sgE [⟨_, _, _, _, _, _, _, _, ⟨_, _, _, _⟩, _, _, _, _, _⟩] ?_
    refine Ex.mo ?_
    refine Ex.pu ?_
    apply Ex.nil
    apply X.region
    iterate 2 refine Ex.pu ?_
    refine Ex.bs tmE [fullT m (1 + v % 8)] ?_
    refine Ex.mo ?_
    refine Ex.pu ?_
    apply Ex.nil
    apply X.region
    iterate 3 refine Ex.pu ?_
    apply Ex.nil
    refine X.bk (j + 1) (hI := Imp.ax)
  ·obtain rfl : j = R.length := by omega
   apply X.exit
   apply X.seq
   refine X.imp (Imp.freeze (k := 30) rfl) ?_
   refine X.imp (Imp.freeze (k := 31) rfl) ?_
   apply X.region
   iterate 2 refine Ex.pu ?_
   refine Ex.unguard rfl rfl rfl ?_
   refine Ex.pu ?_
   refine Ex.unguard rfl rfl rfl ?_
   refine Ex.pu ?_
   refine Ex.unguard rfl rfl rfl ?_
   refine Ex.pu ?_
   refine Ex.unguard rfl rfl rfl ?_
   refine Ex.ca (C_ev_reads (w := 1 + v % 8) (R := R) hM (by omega) (by omega) (by omega)) ?_
   iterate 2 refine Ex.pu ?_
   apply Ex.nil
   refine X.ret ?_
   refine RetQ.ret (.one (.tmp rfl (LeV.eq ?_)))
   all_goals (first | rfl | simp)
end Go.Rse
