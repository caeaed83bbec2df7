/-
  Walks: a level of partial readings.
-/
import Derived.Test.YtfiiobachmglpaaGreatDoorCJCho0
import Derived.Test.YtfiiobachmglpaaGreatDoorCJItem2
set_option linter.unusedSimpArgs false
set_option linter.unusedVariables false
namespace Go.Rse
open Go Go.Proofs
attribute [local irreducible] Pur StepA StepM Ex X Fn Imp LeV LeB FnO It YStep FnW FnOW
def apJ (m : Mn) (k : Int) (L : List Par) (j : Nat) : List Par := (L.take j).map (ap1 m k) ++ L.drop j
theorem apJ_0 (m : Mn) (k : Int) (L : List Par) : L = apJ m k L 0 := by unfold apJ; simp
theorem apJ_len (m : Mn) (k : Int) (L : List Par) (j : Nat) : (apJ m k L j).length = L.length := by unfold apJ; rw [List.length_append, List.length_map, List.length_take, List.length_drop]; omega
theorem apJ_at {m : Mn} {k : Int} {L : List Par} {j : Nat} {p : Par} (h : L[j]? = some p) : (apJ m k L j)[j]? = some p := by
 have hj := (List.getElem?_eq_some_iff.1 h).1
 unfold apJ
 rw [List.getElem?_append_right (by simp; omega)]
 have : j - ((L.take j).map (ap1 m k)).length = 0 := by simp; omega
 rw [this, List.getElem?_drop]; simpa using h
theorem apJ_set {m : Mn} {k : Int} {L : List Par} {j : Nat} {p : Par} (h : L[j]? = some p) : (apJ m k L j).set j (ap1 m k p) = apJ m k L (j + 1) := by
 have hj := List.getElem?_eq_some_iff.1 h
 have hj1 := hj.1
 unfold apJ
 rw [List.set_append_right _ _ (by simp; omega)]
 have : j - ((L.take j).map (ap1 m k)).length = 0 := by simp; omega
 rw [this, List.drop_eq_getElem_cons hj.1, List.set_cons_zero, List.take_add_one, h]
 simp
theorem apJ_end (m : Mn) (k : Int) (L : List Par) : apJ m k L L.length = L.map (ap1 m k) := by unfold apJ; simp
attribute [local irreducible] alV alE segE segV brF bqX cgS cgN br1 apV apE apJ alvE alvV alvR
theorem C_slices_Clone_int_int_f (l : List Int) (hl : l.length <= 4000000000) : Fn Tryz.prog 160 [intsA l] (intsA l) := by
 refine Fn.go Tryz.func160 Tryz.ntmps160 (fun g w d => ?_)
 apply X.sr
 refine Ex.pu ?_
 apply Ex.nil
 apply X.seq
 apply X.sr
 refine Ex.pu ?_
 refine Ex.eqNil rfl sl27 rfl (fun b hb => ?_)
 apply Ex.nil
 refine X.cd rfl (fun hc1 => ?_) (fun hc1 => ?_)
 ·have hl0 := hb hc1
  subst hl0
  subst hc1
  apply X.sr
  refine Ex.pu ?_
  apply Ex.nil
  refine X.ret ?_
  refine RetQ.imp (Imp.au (ts := [(2, intsA [])]) (hs := [])) ?_
  refine RetQ.ret (.one (.tmp rfl (LeV.eq ?_)))
  all_goals (rfl)
 apply X.skip
 apply X.sr
 refine Ex.bs intE [] ?_
 refine Ex.pu ?_
 refine Ex.mo ?_
 refine Ex.pu ?_
 apply Ex.nil
 refine X.ret ?_
 refine RetQ.imp (Imp.freeze (k := 5) rfl) ?_
 refine RetQ.ret (.one (.tmp rfl (LeV.eq ?_)))
 all_goals (rfl)
theorem C_choices_durs (l : List Ite) (hl : l.length <= 100000) : Fn Tryz.prog 177 [itsA l] (tmsA (l.map (·.Dur))) := by
 have hz0 : [] = (l.take 0).map (fun x => x.Dur) := by simp
 refine Fn.go Tryz.func177 Tryz.ntmps177 (fun g w d => ?_)
 apply X.sr
 refine Ex.pu ?_
 apply Ex.ns
 refine Ex.pu ?_
 apply Ex.nil
 apply X.seq
 apply X.seq
 refine X.imp (Imp.mkrow tmE 60 2 3 30 rfl rfl) ?_
 apply X.region
 iterate 3 refine Ex.pu ?_
 apply Ex.nil
 apply X.block
 refine X.lp (ι := Nat) (fun (n : Nat) => [(3, .own 30), (6, itsA l), (7, iv l.length), (8, iv (n : Int))]) (fun (n : Nat) => [(30, .row tmE ((l.take n).map (fun x => x.Dur)) 60 2)]) (fun (n : Nat) => n <= l.length) (fun (n : Nat) => l.length - n) 0 (fun n hk => ?_) (h0 := by
  exact Imp.ax)
 apply X.sr
 refine Ex.pu ?_
 apply Ex.nil
 apply X.seq
 refine X.cd rfl (fun hc1 => ?_) (fun hc1 => ?_)
 ·obtain ⟨x, hx⟩ : ∃ x, l[n]? = some x := ⟨_, List.getElem?_eq_getElem (by omega)⟩
  have hx2 : l[(n : Int).toNat]? = some x := by simpa using hx
  have hst := map_tk hx
  have hlt : ((l.take n).map (fun x => x.Dur)).length <= 100000 := by rw [List.length_map, List.length_take]; omega
  apply X.skip
  apply X.seq
  apply X.block
  apply X.sr
  iterate 2 refine Ex.pu ?_
  refine Ex.al ?_
  refine Ex.mo ?_
  apply Ex.nil
  apply X.region
  iterate 3 refine Ex.pu ?_
  refine Ex.bs tmE [x.Dur] ?_
  refine Ex.mo ?_
  refine Ex.pu ?_
  apply Ex.nil
  apply X.region
  iterate 2 refine Ex.pu ?_
  apply Ex.nil
  refine X.bk (n + 1) (hI := Imp.ax)
 ·obtain rfl : n = l.length := by omega
  have hV : (l.take l.length).map (fun x => x.Dur) = l.map (·.Dur) := by rw [List.take_length]
  apply X.exit
  apply X.sr
  iterate 2 refine Ex.pu ?_
  apply Ex.nil
  refine X.ret ?_
  refine RetQ.imp (Imp.freeze (k := 30) rfl) ?_
  refine RetQ.ret (.one (.tmp rfl (LeV.eq ?_)))
  all_goals (exact congrArg (fun z => tmsA z) hV)
set_option maxHeartbeats 8000000 in
theorem C_choices_atLevel (m : Mn) (k : Int) (l : List Par) (a c : Nat) (h0 : -9223372036854775808 <= k) (h1 : k <= 9223372036854775807) (ha : a <= 1000) (hc : c <= 1000000) (hl : l.length <= 4096) (hB : ∀ p ∈ l, PB a 0 c p) : Fn Tryz.prog 176 [mnA m, iv k, parsA l] (.tup [parsA (alvV m k l), iv (alvE m k l)]) := by
 have hcN := cgN_rng m k (B := a) l (fun p hp => (hB p hp).i)
 have hcs := cgS_len m k l
 have hb0 : cgS m k l = brN m k l 0 := rfl
 refine Fn.go Tryz.func176 Tryz.ntmps176 (fun g w d => ?_)
 apply X.sr
 refine Ex.ba ?_
 iterate 2 refine Ex.pu ?_
 apply Ex.ns
 iterate 3 refine Ex.pu ?_
 refine Ex.co [(30, 30)] (C_choices_segments m k l a 0 c h0 h1 (by omega) (by omega) hB) ?_
 iterate 5 refine Ex.pu ?_
 apply Ex.nil
 apply X.seq
 apply X.sr
 iterate 2 refine Ex.pu ?_
 apply Ex.nil
 apply X.block
 refine X.lp (ι := Nat) (fun (n : Nat) => [(2, .own 30), (1, iv k), (3, .ptr 3 0 0 0), (20, iv (cgN m k l)), (21, iv (n : Int))]) (fun (n : Nat) => [(3, .box (mnE m) 23), (30, .row parE (brN m k l n) 227 3)]) (fun (n : Nat) => BrJ m k l n /\ (brN m k l n).length <= 4096) (fun (n : Nat) => (cgN m k l).toNat - n) 0 (fun n hk => ?_) (hJ := by
  exact ⟨BrJ.z m k l, Nat.le_trans hcs hl⟩) (h0 := by
  exact Imp.ax)
 obtain ⟨hJ, hnl⟩ := hk
 have hle := hJ.le
 have hPn := brN_PB (m := m) (k := k) hB n
 apply X.sr
 refine Ex.pu ?_
 apply Ex.nil
 apply X.seq
 refine X.cd rfl (fun hc1 => ?_) (fun hc1 => ?_)
 ·have hn : n < (cgN m k l).toNat := by omega
  have hbl := brF_len m k (brN m k l n)
  have hbn : brF m k (brN m k l n) = brN m k l (n + 1) := rfl
  apply X.skip
  apply X.seq
  apply X.block
  apply X.seq
  refine X.imp (Imp.freeze (k := 30) rfl) ?_
  apply X.region
  iterate 3 refine Ex.pu ?_
  refine Ex.ca (C_choices_branches m k (brN m k l n)) ?_
  refine Ex.co [(39, 31)] (C_slices_Collect_choices_partial m k (brN m k l n) a n c h0 h1 (by omega) (by omega) (by omega) hPn) ?_
  refine Ex.pu ?_
  apply Ex.ns
  iterate 3 refine Ex.pu ?_
  apply Ex.nil
  refine X.cd rfl (fun hc2 => ?_) (fun hc2 => ?_)
  ·have hZ1 := hJ.bad hn (by omega)
   obtain ⟨hE, hV⟩ := hZ1
   apply X.sr
   iterate 2 refine Ex.pu ?_
   apply Ex.nil
   refine X.ret ?_
   refine RetQ.imp (Imp.au (ts := [(6, parsA []), (7, iv 15)]) (hs := [])) ?_
   refine RetQ.ret (.many (by decide) (.cons (.tmp rfl (LeV.eq ?_)) (.cons (.tmp rfl (LeV.eq ?_)) .nil)))
   all_goals (first | (rw [hV]; done) | (rw [hE]; done) | exact congrArg (fun z => parsA z) hW | exact congrArg (fun z => parsA z) hV.symm | exact congrArg (fun z => AV.int .i64 z) hE.symm)
  have hlen : (brF m k (brN m k l n)).length <= 4096 := by omega
  apply X.skip
  refine X.imp (st' := ⟨[(2, .own 31), (1, iv k), (3, .ptr 3 0 0 0), (20, iv (cgN m k l)), (21, iv (n : Int))], [(3, .box (mnE m) 23), (31, .row parE (brN m k l (n + 1)) 227 3)]⟩) Imp.ax ?_
  refine X.imp (Imp.mv 31 30 rfl rfl) ?_
  apply X.region
  iterate 2 refine Ex.pu ?_
  apply Ex.nil
  refine X.bk (n + 1) (hJ := by
   exact ⟨hJ.s hn hlen, hlen⟩) (hI := Imp.ax)
 ·have hZ2 := hJ.fin (by omega)
  obtain ⟨hE, hV⟩ := hZ2
  apply X.exit
  apply X.seq
  apply X.sr
  iterate 3 refine Ex.pu ?_
  apply Ex.nil
  apply X.block
  have hap0 := apJ_0 m k (brN m k l n)
  refine X.lp (ι := Nat) (fun (q : Nat) => [(1, iv k), (2, .own 30), (3, .ptr 3 0 0 0), (32, .own 30), (33, iv ((brN m k l n).length : Int)), (34, iv (q : Int))]) (fun (q : Nat) => [(3, .box (mnE m) 23), (30, .row parE (apJ m k (brN m k l n) q) 227 3)]) (fun (q : Nat) => q <= (brN m k l n).length) (fun (q : Nat) => (brN m k l n).length - q) 0 (fun q hk => ?_) (h0 := by
   exact Imp.ax)
  apply X.sr
  refine Ex.pu ?_
  apply Ex.nil
  apply X.seq
  refine X.cd rfl (fun hc3 => ?_) (fun hc3 => ?_)
  ·obtain ⟨p, hp⟩ : ∃ p, (brN m k l n)[q]? = some p := ⟨_, List.getElem?_eq_getElem (by omega)⟩
   have hPB := hPn p (List.mem_of_getElem? hp)
   have hpj := apJ_at (m := m) (k := k) hp
   have hpj2 : (apJ m k (brN m k l n) q)[(q : Int).toNat]? = some p := by simpa using hpj
   have hpl := apJ_len m k (brN m k l n) q
   have hps : (apJ m k (brN m k l n) q).set (q : Int).toNat (ap1 m k p) = apJ m k (brN m k l n) (q + 1) := by rw [Int.toNat_natCast]; exact apJ_set hp
   apply X.skip
   apply X.seq
   apply X.block
   apply X.sr
   iterate 2 refine Ex.pu ?_
   refine Ex.pur (P_load_row_all rfl rfl hpj2 rfl rfl ty227) rfl ?_
   refine Ex.al ?_
   refine Ex.pu ?_
   refine Ex.mo ?_
   apply Ex.ns
   iterate 6 refine Ex.pu ?_
   refine Ex.ca (C_level_Apply m k p.items p.now h0 h1 (by have := hPB.i; omega) (by have := hPB.n; omega)) ?_
   iterate 5 refine Ex.pu ?_
   apply Ex.nil
   refine X.drawQ [⟨0, 49, .own 30, []⟩, ⟨1, 50, iv (q : Int), []⟩, ⟨2, 51, itsA (apV m k p.items p.now), []⟩, ⟨3, 52, .ptr 10 0 0 (0 + 2), []⟩, ⟨4, 53, intsA p.made, [3]⟩, ⟨6, 55, .ptr 10 0 0 (0 + 1), []⟩, ⟨7, 56, intsA p.now, [6]⟩, ⟨10, 59, .ptr 30 3 (q : Int).toNat 0, [9, 8, 7, 6, 5, 4, 3, 2, 1, 0]⟩] [(5, [3, 4]), (8, [3, 6, 4, 7, 5]), (9, [3, 6, 4, 7, 5, 8, 2]), (11, [7, 6, 5, 4, 3, 2, 1, 0, 8, 9, 10])] (fun j => match j with | 0 => ⟨[(1, iv k), (2, .own 30), (3, .ptr 3 0 0 0), (32, .own 30), (33, iv ((brN m k l n).length : Int)), (34, iv (q : Int)), (9, iv (q : Int)), (10, .ptr 10 0 0 0), (11, itsA (apV m k p.items p.now))], [(3, .box (mnE m) 23), (30, .row parE (apJ m k (brN m k l n) q) 227 3), (10, .box (parE p) 227)]⟩ | 1 => ⟨[(1, iv k), (2, .own 30), (3, .ptr 3 0 0 0), (32, .own 30), (33, iv ((brN m k l n).length : Int)), (34, iv (q : Int)), (9, iv (q : Int)), (10, .ptr 10 0 0 0), (11, itsA (apV m k p.items p.now)), (54, .own 54)], [(3, .box (mnE m) 23), (30, .row parE (apJ m k (brN m k l n) q) 227 3), (10, .box (parE p) 227), (54, .row intE p.made 3 1)]⟩ | 2 => ⟨[(1, iv k), (2, .own 30), (3, .ptr 3 0 0 0), (32, .own 30), (33, iv ((brN m k l n).length : Int)), (34, iv (q : Int)), (9, iv (q : Int)), (10, .ptr 10 0 0 0), (11, itsA (apV m k p.items p.now)), (57, intsA (p.made ++ p.now))], [(3, .box (mnE m) 23), (30, .row parE (apJ m k (brN m k l n) q) 227 3), (10, .box (parE p) 227)]⟩ | 3 => ⟨[(1, iv k), (2, .own 30), (3, .ptr 3 0 0 0), (32, .own 30), (33, iv ((brN m k l n).length : Int)), (34, iv (q : Int)), (9, iv (q : Int)), (10, .ptr 10 0 0 0), (11, itsA (apV m k p.items p.now)), (58, .agg [itsA (apV m k p.items p.now), intsA [], intsA (p.made ++ p.now)])], [(3, .box (mnE m) 23), (30, .row parE (apJ m k (brN m k l n) q) 227 3), (10, .box (parE p) 227)]⟩ | _ => ⟨[(1, iv k), (2, .own 30), (3, .ptr 3 0 0 0), (32, .own 30), (33, iv ((brN m k l n).length : Int)), (34, iv (q : Int)), (9, iv (q : Int)), (10, .ptr 10 0 0 0), (11, itsA (apV m k p.items p.now))], [(3, .box (mnE m) 23), (30, .row parE ((apJ m k (brN m k l n) q).set (q : Int).toNat (ap1 m k p)) 227 3), (10, .box (parE p) 227)]⟩) mo (by kernel_rfl) (Imp.SP0 (Imp.au)) (fun j hj => ?_) (fun j c hc β hβ => ?_) ?_
   ·rcases j with _ | _ | _ | _ | _ | j
    ·refine ⟨.inr ⟨_, rfl, rfl, rfl, rfl, Pur.stepA Pur.au⟩, ?_⟩
     refine ⟨.inr ⟨_, rfl, rfl, rfl, rfl, Pur.stepA Pur.au⟩, ?_⟩
     refine ⟨.inr ⟨_, rfl, rfl, rfl, rfl, Pur.stepA Pur.au⟩, ?_⟩
     refine ⟨.inr ⟨_, rfl, rfl, rfl, rfl, Pur.stepA Pur.au⟩, ?_⟩
     refine ⟨.inr ⟨_, rfl, rfl, rfl, rfl, Pur.stepA Pur.au⟩, ?_⟩
     refine ⟨.inr ⟨_, rfl, rfl, rfl, rfl, Pur.stepA Pur.au⟩, ?_⟩
     refine ⟨.inr ⟨_, rfl, rfl, rfl, rfl, Pur.stepA Pur.au⟩, ?_⟩
     refine ⟨.inl rfl, ?_⟩
     exact True.intro
    ·refine ⟨.inr ⟨_, rfl, rfl, rfl, rfl, Pur.stepA Pur.au⟩, ?_⟩
     refine ⟨.inr ⟨_, rfl, rfl, rfl, rfl, Pur.stepA Pur.au⟩, ?_⟩
     refine ⟨.inr ⟨_, rfl, rfl, rfl, rfl, Pur.stepA Pur.au⟩, ?_⟩
     refine ⟨.inl rfl, ?_⟩
     refine ⟨.inl rfl, ?_⟩
     refine ⟨.inr ⟨_, rfl, rfl, rfl, rfl, Pur.stepA Pur.au⟩, ?_⟩
     refine ⟨.inr ⟨_, rfl, rfl, rfl, rfl, Pur.stepA Pur.au⟩, ?_⟩
     refine ⟨.inl rfl, ?_⟩
     exact True.intro
    ·refine ⟨.inr ⟨_, rfl, rfl, rfl, rfl, Pur.stepA Pur.au⟩, ?_⟩
     refine ⟨.inr ⟨_, rfl, rfl, rfl, rfl, Pur.stepA Pur.au⟩, ?_⟩
     refine ⟨.inr ⟨_, rfl, rfl, rfl, rfl, Pur.stepA Pur.au⟩, ?_⟩
     refine ⟨.inl rfl, ?_⟩
     refine ⟨.inl rfl, ?_⟩
     refine ⟨.inl rfl, ?_⟩
     refine ⟨.inl rfl, ?_⟩
     refine ⟨.inl rfl, ?_⟩
     exact True.intro
    ·refine ⟨.inr ⟨_, rfl, rfl, rfl, rfl, Pur.stepA Pur.au⟩, ?_⟩
     refine ⟨.inr ⟨_, rfl, rfl, rfl, rfl, Pur.stepA Pur.au⟩, ?_⟩
     refine ⟨.inl rfl, ?_⟩
     refine ⟨.inl rfl, ?_⟩
     refine ⟨.inl rfl, ?_⟩
     refine ⟨.inl rfl, ?_⟩
     refine ⟨.inl rfl, ?_⟩
     refine ⟨.inr ⟨_, rfl, rfl, rfl, rfl, Pur.stepA Pur.au⟩, ?_⟩
     exact True.intro
    ·refine ⟨.inl rfl, ?_⟩
     refine ⟨.inl rfl, ?_⟩
     refine ⟨.inl rfl, ?_⟩
     refine ⟨.inl rfl, ?_⟩
     refine ⟨.inl rfl, ?_⟩
     refine ⟨.inl rfl, ?_⟩
     refine ⟨.inl rfl, ?_⟩
     refine ⟨.inl rfl, ?_⟩
     exact True.intro
    ·exact absurd (show j + 5 <= 4 from hj) (by omega)
   ·rcases j with _ | _ | _ | _ | j
    ·obtain rfl : (5, [3, 4]) = c := by injection hc
     refine Step1.mk rfl (StepM.pre (st0 := ⟨[(49, .ifb (β 0) (.own 30)), (50, .ifb (β 1) (iv (q : Int))), (51, .ifb (β 2) (itsA (apV m k p.items p.now))), (52, .ptr 10 0 0 (0 + 2)), (53, intsA p.made), (55, .ifb (β 6) (.ptr 10 0 0 (0 + 1))), (56, .ifb (β 7) (intsA p.now)), (59, .ifb (β 10) (.ptr 30 3 (q : Int).toNat 0)), (1, iv k), (2, .own 30), (3, .ptr 3 0 0 0), (32, .own 30), (33, iv ((brN m k l n).length : Int)), (34, iv (q : Int)), (9, iv (q : Int)), (10, .ptr 10 0 0 0), (11, itsA (apV m k p.items p.now))], [(3, .box (mnE m) 23), (30, .row parE (apJ m k (brN m k l n) q) 227 3), (10, .box (parE p) 227)]⟩) (Imp.ib) ?_)
     refine StepM.imp (M_co [(5, 54)] (C_slices_Clone_int_int p.made (by have := hPB.d; omega))) (Imp.ib)
    ·obtain rfl : (8, [3, 6, 4, 7, 5]) = c := by injection hc
     refine Step1.mk rfl (StepM.pre (st0 := ⟨[(49, .ifb (β 0) (.own 30)), (50, .ifb (β 1) (iv (q : Int))), (51, .ifb (β 2) (itsA (apV m k p.items p.now))), (52, .ptr 10 0 0 (0 + 2)), (53, intsA p.made), (55, .ptr 10 0 0 (0 + 1)), (56, intsA p.now), (59, .ifb (β 10) (.ptr 30 3 (q : Int).toNat 0)), (1, iv k), (2, .own 30), (3, .ptr 3 0 0 0), (32, .own 30), (33, iv ((brN m k l n).length : Int)), (34, iv (q : Int)), (9, iv (q : Int)), (10, .ptr 10 0 0 0), (11, itsA (apV m k p.items p.now)), (54, .own 54)], [(3, .box (mnE m) 23), (30, .row parE (apJ m k (brN m k l n) q) 227 3), (10, .box (parE p) 227), (54, .row intE p.made 3 1)]⟩) (Imp.ib) ?_)
     refine StepM.imp (StepM.imp (M_append_sl (l := p.made) (l2 := p.now) rfl rfl rfl sl27 ti3 (by decide) (by decide) (fun _ => rfl) (fun _ => rfl) (by have := hPB.d; have := hPB.n; omega) rfl) (Imp.freeze (k := 54) rfl)) (Imp.ib)
    ·obtain rfl : (9, [3, 6, 4, 7, 5, 8, 2]) = c := by injection hc
     refine Step1.mk rfl (StepM.pre (st0 := ⟨[(49, .ifb (β 0) (.own 30)), (50, .ifb (β 1) (iv (q : Int))), (51, itsA (apV m k p.items p.now)), (52, .ptr 10 0 0 (0 + 2)), (53, intsA p.made), (55, .ptr 10 0 0 (0 + 1)), (56, intsA p.now), (59, .ifb (β 10) (.ptr 30 3 (q : Int).toNat 0)), (1, iv k), (2, .own 30), (3, .ptr 3 0 0 0), (32, .own 30), (33, iv ((brN m k l n).length : Int)), (34, iv (q : Int)), (9, iv (q : Int)), (10, .ptr 10 0 0 0), (11, itsA (apV m k p.items p.now)), (57, intsA (p.made ++ p.now))], [(3, .box (mnE m) 23), (30, .row parE (apJ m k (brN m k l n) q) 227 3), (10, .box (parE p) 227)]⟩) (Imp.ib) ?_)
     refine StepM.imp (StepA.toM (Pur.stepA Pur.au) rfl rfl) (Imp.of (by (repeat' (first | exact True.intro | (refine And.intro ⟨_, rfl, ?_⟩ ?_; (first | exact LeV.agg (.cons (LeV.refl _) (.cons (LeV.nils _) (.cons (LeV.refl _) .nil))) | exact LeV.refl _ | exact LeV.ifbT (hβ _ (by simp)) | exact LeV.toIfb _ _ | exact LeB.refl _))))) (by (repeat' (first | exact True.intro | (refine And.intro ⟨_, rfl, ?_⟩ ?_; (first | exact LeV.agg (.cons (LeV.refl _) (.cons (LeV.nils _) (.cons (LeV.refl _) .nil))) | exact LeV.refl _ | exact LeV.ifbT (hβ _ (by simp)) | exact LeV.toIfb _ _ | exact LeB.refl _))))))
    ·obtain rfl : (11, [7, 6, 5, 4, 3, 2, 1, 0, 8, 9, 10]) = c := by injection hc
     refine Step1.mk rfl (StepM.pre (st0 := ⟨[(49, .own 30), (50, iv (q : Int)), (51, itsA (apV m k p.items p.now)), (52, .ptr 10 0 0 (0 + 2)), (53, intsA p.made), (55, .ptr 10 0 0 (0 + 1)), (56, intsA p.now), (59, .ptr 30 3 (q : Int).toNat 0), (1, iv k), (2, .own 30), (3, .ptr 3 0 0 0), (32, .own 30), (33, iv ((brN m k l n).length : Int)), (34, iv (q : Int)), (9, iv (q : Int)), (10, .ptr 10 0 0 0), (11, itsA (apV m k p.items p.now)), (58, .agg [itsA (apV m k p.items p.now), intsA [], intsA (p.made ++ p.now)])], [(3, .box (mnE m) 23), (30, .row parE (apJ m k (brN m k l n) q) 227 3), (10, .box (parE p) 227)]⟩) (Imp.ib) ?_)
     refine StepM.imp (M_store_row (ap1 m k p) rfl rfl (fun _ => rfl) (by decide) (by rw [apJ_len]; omega) rfl rfl rfl rfl rfl ty227) (Imp.ib)
    ·exact absurd hc (by simp)
   apply X.region
   iterate 2 refine Ex.pu ?_
   apply Ex.nil
   refine X.bk (q + 1) (hI := Imp.ax)
  ·obtain rfl : q = (brN m k l n).length := by omega
   have hW : apJ m k (brN m k l n) (brN m k l n).length = alvV m k l := (apJ_end m k _).trans hV
   apply X.exit
   apply X.sr
   iterate 3 refine Ex.pu ?_
   apply Ex.nil
   refine X.ret ?_
   refine RetQ.imp (Imp.freeze (k := 30) rfl) ?_
   refine RetQ.ret (.many (by decide) (.cons (.tmp rfl (LeV.eq ?_)) (.cons (.tmp rfl (LeV.eq ?_)) .nil)))
   all_goals (first | (rw [hV]; done) | (rw [hE]; done) | exact congrArg (fun z => parsA z) hW | exact congrArg (fun z => parsA z) hV.symm | exact congrArg (fun z => AV.int .i64 z) hE.symm)
end Go.Rse
