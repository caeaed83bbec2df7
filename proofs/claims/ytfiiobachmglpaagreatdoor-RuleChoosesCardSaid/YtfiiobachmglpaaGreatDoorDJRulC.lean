/-
  A run read by the rule.
  Walks: a run read by the rule.
  Walks: the durations of a run by the rule.
-/
import Derived.Test.YtfiiobachmglpaaGreatDoorDRulA
import Derived.Test.YtfiiobachmglpaaGreatDoorDJKit1
import Derived.Test.YtfiiobachmglpaaGreatDoorDRulB
import Derived.Test.YtfiiobachmglpaaGreatDoorDLogD
import Derived.Test.YtfiiobachmglpaaGreatDoorDLevA
set_option linter.unusedSimpArgs false
set_option linter.unusedVariables false
namespace Go.Rse
open Go Go.Proofs
def rdI (m : Mn) (l : List Sg) : List Ite := itmV m l (ruleD m l) (twos (prL m l).length)
def rdE (m : Mn) (l : List Sg) : Int := if ckD m l = 0 then leE m (rdI m l) else ckD m l
def rdV (m : Mn) (l : List Sg) : Rdg := if rdE m l = 0 then ⟨ruleD m l, twos (prL m l).length, leC m (rdI m l), (leI m (rdI m l)).map (·.Dur)⟩ else ⟨[], [], [], []⟩
section
variable {m : Mn} {l : List Sg}
theorem zpK (h : ckD m l = 0) : itmE m l (ruleD m l) (twos (prL m l).length) = 0 := by
 unfold itmE
 rw [if_pos (ziV (zcR h).1 h)]; exact ziW h
theorem zp4 (h : ¬ ckD m l = 0) : rdE m l = ckD m l /\ rdV m l = ⟨[], [], [], []⟩ := by
 have : rdE m l = ckD m l := by unfold rdE; rw [if_neg h]
 refine ⟨this, ?_⟩; unfold rdV; rw [this, if_neg h]
theorem zp5 (h : ckD m l = 0) (h2 : ¬ leE m (rdI m l) = 0) : rdE m l = leE m (rdI m l) /\ rdV m l = ⟨[], [], [], []⟩ := by
 have : rdE m l = leE m (rdI m l) := by unfold rdE; rw [if_pos h]
 refine ⟨this, ?_⟩; unfold rdV; rw [this, if_neg h2]
theorem zpS (h : ckD m l = 0) (h2 : leE m (rdI m l) = 0) : rdE m l = 0 /\ rdV m l = ⟨ruleD m l, twos (prL m l).length, leC m (rdI m l), (leI m (rdI m l)).map (·.Dur)⟩ := by
 have : rdE m l = 0 := by unfold rdE; rw [if_pos h, h2]
 refine ⟨this, ?_⟩; unfold rdV; rw [this, if_pos rfl]
theorem zjW : (rdI m l).length <= l.length := zke _ _ _ _
end
theorem zjX {m : Mn} : ∀ (L : List Int) (l : List Ite) (C : List Int), (lvF m L l C).2.1.length <= l.length
 | [], l, C => Nat.le_refl _
 | k :: r, l, C => by
  unfold lvF
  split
  ·rename_i h
   have := zjX (m := m) r (apV m k l (cuV m k l)) (C ++ cuV m k l)
   rw [zjV (zki h)] at this; exact this
  ·simp
theorem zhw (m : Mn) (l : List Ite) : (leI m l).length <= l.length := by
 unfold leI
 split
 ·exact zjX _ _ _
 ·simp
theorem zoi {l : List Ite} {n : Nat} {x : Ite} (h : l[n]? = some x) : (l.take n).map (·.Dur) ++ [x.Dur] = (l.take (n + 1)).map (·.Dur) := by
 rw [List.take_add_one, h]; simp
end Go.Rse
namespace Go.Rse
open Go Go.Proofs
attribute [local irreducible] Pur StepA StepM Ex X Fn Imp LeV LeB FnO It YStep FnW FnOW FnP FnD
attribute [local irreducible] leE leC leI rdI rdE rdV ckD ruleD twos prL itmV itmE
set_option maxHeartbeats 4000000 in
theorem zhx (m : Mn) (l : List Sg) (hl : l.length <= 1000) : Fn Tryz.prog 26 [mnA m, sgsA l] (.tup [rdgA (rdV m l), iv (rdE m l)]) := by
 have hR := zg7 m l hl
 have hil := zjW (m := m) (l := l)
 have hLl := zhw m (rdI m l)
 have hpl : (twos (prL m l).length).length <= 1000 := by rw [zdu]; have := zgX m l; omega
 have hdl : (ruleD m l).length <= 4000000 := by have := zhI m l; have := zhC m l; omega
 refine Fn.go Tryz.func26 Tryz.ntmps26 (fun g w d => ?_)
 apply X.sr
 refine Ex.ba ?_
 refine Ex.al ?_
 refine Ex.pn ?_
 apply X.seq
 apply X.sr
 iterate 2 refine Ex.pu ?_
 refine Ex.ca (zb1 m l hl) ?_
 refine Ex.pu ?_
 apply Ex.ns
 refine Ex.pu ?_
 refine Ex.pn ?_
 refine X.cd rfl ?_ ?_<;>intro hc1
 ·have hZ1 := zp4 hc1
  obtain ⟨hE, hV⟩ := hZ1
  apply X.sr
  iterate 2 refine Ex.pu ?_
  refine Ex.mo ?_
  refine Ex.pn ?_
  refine X.ret ?_
  refine RetQ.imp (Imp.of (ts := [(4, .ptr 4 0 0 0), (5, iv (ckD m l))]) (hs := [(4, .box [intsA [], intsA [], intsA [], tmsA []] 41)]) ⟨⟨_, rfl, LeV.refl _⟩, ⟨_, rfl, LeV.refl _⟩, True.intro⟩ ⟨⟨_, rfl, LeB.box (.cons (LeV.nils _) (.cons (LeV.nils _) (.cons (LeV.nils _) (.cons (LeV.nils _) .nil))))⟩, True.intro⟩) ?_
  refine RetQ.rc ty41 ?_ ?_
  all_goals (first | exact congrArg (fun z => AV.agg (rdgE z)) hV.symm | exact congrArg (fun z => AV.int .i64 z) hE.symm)
 have h0 : ckD m l = 0 := by omega
 rw [if_pos h0, h0] at hR
 have hit := zpK h0
 have hI : Fn Tryz.prog 33 [mnA m, sgsA l, intsA (ruleD m l), intsA (twos (prL m l).length)] (.tup [itsA (rdI m l), iv 0]) := by
  have h := zgk m l (ruleD m l) (twos (prL m l).length) hl hpl
  rw [hit] at h; unfold rdI; exact h
 apply X.skip
 apply X.sr
 iterate 2 refine Ex.pu ?_
 refine Ex.ca hR ?_
 iterate 6 refine Ex.pu ?_
 refine Ex.pn ?_
 apply X.seq
 apply X.sr
 refine Ex.pu ?_
 refine Ex.pn ?_
 refine X.cd rfl ?_ ?_<;>intro hc2
 ·exact absurd rfl hc2
 apply X.skip
 apply X.sr
 iterate 4 refine Ex.pu ?_
 refine Ex.ca hI ?_
 iterate 4 refine Ex.pu ?_
 refine Ex.pn ?_
 apply X.seq
 apply X.sr
 refine Ex.pu ?_
 refine Ex.pn ?_
 refine X.cd rfl ?_ ?_<;>intro hc3
 ·exact absurd rfl hc3
 apply X.skip
 apply X.sr
 iterate 2 refine Ex.pu ?_
 refine Ex.ca (zdS m (rdI m l) (by omega)) ?_
 iterate 6 refine Ex.pu ?_
 refine Ex.pn ?_
 apply X.seq
 apply X.sr
 refine Ex.pu ?_
 refine Ex.pn ?_
 refine X.cd rfl ?_ ?_<;>intro hc4
 ·have hZ2 := zp5 h0 hc4
  obtain ⟨hE, hV⟩ := hZ2
  apply X.sr
  iterate 2 refine Ex.pu ?_
  refine Ex.mo ?_
  refine Ex.pn ?_
  refine X.ret ?_
  refine RetQ.imp (Imp.of (ts := [(4, .ptr 4 0 0 0), (5, iv (leE m (rdI m l)))]) (hs := [(4, .box [intsA [], intsA [], intsA [], tmsA []] 41)]) ⟨⟨_, rfl, LeV.refl _⟩, ⟨_, rfl, LeV.refl _⟩, True.intro⟩ ⟨⟨_, rfl, LeB.box (.cons (LeV.nils _) (.cons (LeV.nils _) (.cons (LeV.nils _) (.cons (LeV.nils _) .nil))))⟩, True.intro⟩) ?_
  refine RetQ.rc ty41 ?_ ?_
  all_goals (first | exact congrArg (fun z => AV.agg (rdgE z)) hV.symm | exact congrArg (fun z => AV.int .i64 z) hE.symm)
 have h2 : leE m (rdI m l) = 0 := by omega
 have hZ3 := zpS h0 h2
 obtain ⟨hE, hV0⟩ := hZ3
 have hz0 : [] = ((leI m (rdI m l)).take 0).map (fun x => x.Dur) := by simp
 apply X.skip
 apply X.sr
 iterate 4 refine Ex.pu ?_
 refine Ex.al ?_
 refine Ex.mo ?_
 apply Ex.nil
 iterate 2 apply X.seq
 refine X.imp (st' := ⟨[(4, .ptr 4 0 0 0), (10, itsA (leI m (rdI m l))), (12, .ptr 12 0 0 0)], [(4, .box [.nils, .nils, .nils, .nils] 41), (12, .box [intsA (ruleD m l), intsA (twos (prL m l).length), intsA (leC m (rdI m l)), .own 40] 41), (40, .row tmE [] 60 2)]⟩) ((Imp.mkrowC tmE 60 2 12 40 3 41 _ [intsA (ruleD m l), intsA (twos (prL m l).length), intsA (leC m (rdI m l)), .own 40] rfl rfl rfl rfl).trans Imp.au) ?_
 apply X.region
 iterate 2 refine Ex.pu ?_
 refine Ex.pn ?_
 apply X.block
 refine X.lp (ι := Nat) (fun (n : Nat) => [(4, .ptr 4 0 0 0), (12, .ptr 12 0 0 0), (60, itsA (leI m (rdI m l))), (61, iv (leI m (rdI m l)).length), (62, iv (n : Int))]) (fun (n : Nat) => [(4, .box [.nils, .nils, .nils, .nils] 41), (12, .box [intsA (ruleD m l), intsA (twos (prL m l).length), intsA (leC m (rdI m l)), .own 40] 41), (40, .row tmE (((leI m (rdI m l)).take n).map (fun x => x.Dur)) 60 2)]) (fun (n : Nat) => n <= (leI m (rdI m l)).length) (fun (n : Nat) => (leI m (rdI m l)).length - n) 0 (fun n hk => ?_) (h0 := by
  exact Imp.ax)
 apply X.sr
 refine Ex.pn ?_
 apply X.seq
 refine X.cd rfl ?_ ?_<;>intro hc5
 ·obtain ⟨x, hx⟩ : ∃ x, (leI m (rdI m l))[n]? = some x := ⟨_, Go.Rse.L.gg (by omega)⟩
  have hx2 : (leI m (rdI m l))[(n : Int).toNat]? = some x := by simpa using hx
  have hst := zoi hx
  have htl : (((leI m (rdI m l)).take n).map (fun x => x.Dur)).length <= 1000 := by rw [List.length_map, List.length_take]; omega
  apply X.skip
  apply X.seq
  apply X.block
  apply X.sr
  iterate 2 refine Ex.pu ?_
  refine Ex.al ?_
  refine Ex.mo ?_
  apply Ex.nil
  apply X.region
  iterate 4 refine Ex.pu ?_
  refine Ex.bs tmE [⟨_, _⟩] ?_
  refine Ex.mo ?_
  refine Ex.pu ?_
  refine Ex.mo ?_
  apply Ex.nil
  apply X.region
  refine Ex.pu ?_
  refine Ex.pn ?_
  refine X.bk (n + 1) (hI := Imp.ax)
 ·have hn : n = (leI m (rdI m l)).length := by omega
  subst hn
  have hV : rdV m l = ⟨ruleD m l, twos (prL m l).length, leC m (rdI m l), ((leI m (rdI m l)).take (leI m (rdI m l)).length).map (fun x => x.Dur)⟩ := by rw [hV0, List.take_length]
  apply X.exit
  apply X.seq
  refine X.imp (st' := ⟨[(4, .ptr 4 0 0 0), (12, .ptr 12 0 0 0)], [(4, .box [.nils, .nils, .nils, .nils] 41), (12, .box [intsA (ruleD m l), intsA (twos (prL m l).length), intsA (leC m (rdI m l)), tmsA (((leI m (rdI m l)).take (leI m (rdI m l)).length).map (fun x => x.Dur))] 41)]⟩) ((Imp.freeze (k := 40) rfl).trans Imp.au) ?_
  apply X.region
  refine Ex.pu ?_
  refine Ex.mo ?_
  refine Ex.pn ?_
  refine X.ret ?_
  refine RetQ.rc ty41 ?_ ?_
  all_goals (first | exact congrArg (fun z => AV.agg (rdgE z)) hV.symm | exact congrArg (fun z => AV.int .i64 z) hE.symm)
end Go.Rse
namespace Go.Rse
open Go Go.Proofs
attribute [local irreducible] Pur StepA StepM Ex X Fn Imp LeV LeB FnO It YStep FnW FnOW FnP FnD
attribute [local irreducible] rdE rdV
theorem zhy (m : Mn) (l : List Sg) (hl : l.length <= 1000) : Fn Tryz.prog 30 [mnA m, sgsA l] (.tup [tmsA (rdV m l).Durs, iv (rdE m l)]) := by
 refine Fn.go Tryz.func30 Tryz.ntmps30 (fun g w d => ?_)
 apply X.sr
 refine Ex.ba ?_
 iterate 2 refine Ex.pu ?_
 apply Ex.ns
 iterate 2 refine Ex.pu ?_
 refine Ex.ca (zhx m l hl) ?_
 iterate 3 refine Ex.pu ?_
 refine Ex.al ?_
 refine Ex.mo ?_
 refine Ex.pu ?_
 apply Ex.ns
 iterate 4 refine Ex.pu ?_
 refine Ex.pn ?_
 refine X.ret ?_
 refine RetQ.r2 ?_ ?_
 all_goals (first | (with_reducible rfl) | rfl)
theorem zmp {m : Mn} {l : List Sg} : (rdV m l).Durs.length <= l.length := by
 unfold rdV
 split
 ·show ((leI m (rdI m l)).map _).length <= _
  rw [List.length_map]
  exact Nat.le_trans (zhw _ _) zjW
 ·simp
end Go.Rse
namespace Go.Rse
open Go Go.Proofs
attribute [local irreducible] Pur StepA StepM Ex X Fn Imp LeV LeB FnO It YStep FnW FnOW FnP FnD
def hfT (n : Int) : Tm := ⟨n / gI n 2, 2 / gI n 2⟩
theorem zpT {l : List Int} {k : Nat} {x : Int} (h : l[k]? = some x) : (l.take k).map hfT ++ [⟨x / gI x 2, 2 / gI x 2⟩] = (l.take (k + 1)).map hfT := by
 rw [List.take_add_one, h]; simp [hfT]
theorem zcW (l : List Int) (hl : l.length <= 1000) (hb : ∀ x ∈ l, 0 <= x /\ x <= 1000000) : Fn Tryz.prog 82 [intsA l] (tmsA (l.map hfT)) := by
 refine Fn.go Tryz.func82 Tryz.ntmps82 (fun g w d => ?_)
 apply X.sr
 refine Ex.pu ?_
 apply Ex.ns
 refine Ex.pn ?_
 iterate 2 apply X.seq
 refine X.imp (Imp.mkrow tmE 60 2 3 30 rfl rfl) ?_
 have hz0 : [] = (l.take 0).map hfT := by simp
 apply X.region
 refine Ex.pn ?_
 apply X.block
 refine X.lp (ι := Nat) (fun (k : Nat) => [(0, intsA l), (3, .own 30), (4, iv (k : Int))]) (fun (k : Nat) => [(30, .row tmE ((l.take k).map hfT) 60 2)]) (fun (k : Nat) => k <= l.length) (fun (k : Nat) => l.length - k) 0 (fun k hk => ?_) (h0 := by
  exact Imp.ax)
 apply X.seq
 apply X.sr
 iterate 3 refine Ex.pu ?_
 refine Ex.pn ?_
 refine X.cd rfl ?_ ?_<;>intro hc1
 ·obtain ⟨x, hx⟩ : ∃ x, l[k]? = some x := ⟨_, Go.Rse.L.gg (by omega)⟩
  have hx2 : l[(k : Int).toNat]? = some x := by simpa using hx
  have hxb := hb x (List.mem_of_getElem? hx)
  have hst := zpT hx
  have htl : ((l.take k).map hfT).length <= 1000 := by rw [List.length_map, List.length_take]; omega
  apply X.skip
  apply X.seq
  apply X.block
  apply X.region
  iterate 5 refine Ex.pu ?_
  refine Ex.ca (zfK x 2 (by omega) (by omega)) ?_
  refine Ex.bs tmE [⟨_, _⟩] ?_
  refine Ex.mo ?_
  refine Ex.pn ?_
  apply X.region
  iterate 2 refine Ex.pu ?_
  refine Ex.pn ?_
  refine X.bk (k + 1) (hI := Imp.ax)
 ·have hn : k = l.length := by omega
  subst hn
  have hV : (l.take l.length).map hfT = l.map hfT := by rw [List.take_length]
  apply X.exit
  apply X.sr
  refine Ex.pu ?_
  refine Ex.pn ?_
  refine X.ret ?_
  refine RetQ.imp (Imp.freeze (k := 30) rfl) ?_
  refine RetQ.r1 ?_
  all_goals (exact congrArg (fun z => tmsA z) hV)
end Go.Rse
namespace Go.Rse
open Go Go.Proofs
def txT : List Int := [88, 76, 66, 83, 77, 81, 70, 90]
def txV (b : Int) : Nat -> Int
 | 0 => 0
 | k + 1 => if txT.getD k 0 = b then (k : Int) + 1 else txV b k
def txG (b : Int) (rest col : Bool) : Sg := if rest = true then { (default : Sg) with Kind := 2, Value := txV b 8 } else { (default : Sg) with Kind := 1, Value := txV b 8, Color := col }
def txS (S : List Sg × Bool × Bool) (b : Int) : List Sg × Bool × Bool :=
 if b = 114 then (S.1, true, S.2.2)
 else if b = 42 then (S.1, S.2.1, true)
 else if b = 46 then (S.1 ++ [{ (default : Sg) with Kind := 3 }], false, false)
 else if b = 32 then (S.1, false, false)
 else (S.1 ++ [txG b S.2.1 S.2.2], false, false)
def txB (s : ByteArray) : List Int := s.data.toList.map fun x => (x.toNat : Int)
theorem zpD {s : ByteArray} {i : Nat} (h : i < s.size) : (txB s)[i]? = some ((s[i]'h).toNat : Int) := by
 have h2 : i < s.data.toList.length := by simpa using h
 unfold txB; rw [List.getElem?_map, Go.Rse.L.gg h2]; rfl
def txK (l : List Int) (n : Nat) : List Sg × Bool × Bool := (l.take n).foldl txS ([], false, false)
theorem zn8 {l : List Int} {n : Nat} {b : Int} (h : l[n]? = some b) : txK l (n + 1) = txS (txK l n) b := by
 unfold txK
 rw [List.take_add_one, h]
 simp [List.foldl_append]
theorem zht (l : List Int) : ∀ n, (txK l n).1.length <= n
 | 0 => by simp [txK]
 | n + 1 => by
  have h0 := zht l n
  cases h : l[n]? with
  | none =>
   have : txK l (n + 1) = txK l n := by unfold txK; rw [List.take_add_one, h]; simp
   rw [this]; omega
  | some b =>
   rw [zn8 h]
   unfold txS
   split
   ·exact Nat.le_succ_of_le h0
   ·split
    ·exact Nat.le_succ_of_le h0
    ·split
     ·simp; omega
     ·split
      ·exact Nat.le_succ_of_le h0
      ·simp; omega
end Go.Rse
namespace Go.Rse
open Go Go.Proofs
theorem zpU {S S2 : List Sg × Bool × Bool} {b : Int} (h : S2 = txS S b) (hb : b = 114) : S.1 = S2.1 /\ true = S2.2.1 /\ S.2.2 = S2.2.2 := by subst h; unfold txS; rw [if_pos hb]; exact ⟨rfl, rfl, rfl⟩
theorem zpV {S S2 : List Sg × Bool × Bool} {b : Int} (h : S2 = txS S b) (ha : ¬ b = 114) (hb : b = 42) : S.1 = S2.1 /\ S.2.1 = S2.2.1 /\ true = S2.2.2 := by subst h; unfold txS; rw [if_neg ha, if_pos hb]; exact ⟨rfl, rfl, rfl⟩
theorem zpW {S S2 : List Sg × Bool × Bool} {b : Int} (h : S2 = txS S b) (ha : ¬ b = 114) (hc : ¬ b = 42) (hb : b = 46) : S.1 ++ [{ (default : Sg) with Kind := 3 }] = S2.1 /\ false = S2.2.1 /\ false = S2.2.2 := by subst h; unfold txS; rw [if_neg ha, if_neg hc, if_pos hb]; exact ⟨rfl, rfl, rfl⟩
theorem zpX {S S2 : List Sg × Bool × Bool} {b : Int} (h : S2 = txS S b) (ha : ¬ b = 114) (hc : ¬ b = 42) (hd : ¬ b = 46) (hb : b = 32) : S.1 = S2.1 /\ false = S2.2.1 /\ false = S2.2.2 := by subst h; unfold txS; rw [if_neg ha, if_neg hc, if_neg hd, if_pos hb]; exact ⟨rfl, rfl, rfl⟩
theorem zpY {S S2 : List Sg × Bool × Bool} {b : Int} (h : S2 = txS S b) (ha : ¬ b = 114) (hc : ¬ b = 42) (hd : ¬ b = 46) (hb : ¬ b = 32) : S.1 ++ [txG b S.2.1 S.2.2] = S2.1 /\ false = S2.2.1 /\ false = S2.2.2 := by subst h; unfold txS; rw [if_neg ha, if_neg hc, if_neg hd, if_neg hb]; exact ⟨rfl, rfl, rfl⟩
theorem znd (k : Nat) (h : ((k : Int)).toNat < (⟨#[88, 76, 66, 83, 77, 81, 70, 90]⟩ : ByteArray).size) : (((⟨#[88, 76, 66, 83, 77, 81, 70, 90]⟩ : ByteArray)[((k : Int)).toNat]'h).toNat : Int) = txT.getD k 0 := by
 have h8 : k < 8 := by
  rw [Int.toNat_natCast] at h; exact h
 have key : ∀ j : Fin 8, (((⟨#[88, 76, 66, 83, 77, 81, 70, 90]⟩ : ByteArray)[j.val]'j.isLt).toNat : Int) = txT.getD j.val 0 := by decide
 have := key ⟨k, h8⟩
 simpa using this
theorem zoT {b : Int} {k : Nat} (h : txT.getD k 0 = b) : txV b (k + 1) = (k : Int) + 1 := by
 show (if txT.getD k 0 = b then (k : Int) + 1 else txV b k) = _
 rw [if_pos h]
theorem zoU {b : Int} {k : Nat} (h : ¬ txT.getD k 0 = b) : txV b (k + 1) = txV b k := by
 show (if txT.getD k 0 = b then (k : Int) + 1 else txV b k) = _
 rw [if_neg h]
theorem zoV {b : Int} {r c : Bool} (h : r = true) : txG b r c = ⟨2, txV b 8, 0, 0, false, 0, false, false, ⟨0, 0, 0, 0⟩, false, 0, 0, 0, 0⟩ := by unfold txG; rw [if_pos h]; rfl
theorem zoW {b : Int} {r c : Bool} (h : r = false) : txG b r c = ⟨1, txV b 8, 0, 0, c, 0, false, false, ⟨0, 0, 0, 0⟩, false, 0, 0, 0, 0⟩ := by unfold txG; rw [if_neg (by rw [h]; decide)]; rfl
theorem zoX : ({ (default : Sg) with Kind := 3 } : Sg) = ⟨3, 0, 0, 0, false, 0, false, false, ⟨0, 0, 0, 0⟩, false, 0, 0, 0, 0⟩ := rfl
theorem zoY (b : Int) : txV b 0 = 0 := rfl
attribute [local irreducible] txK txB txS txV txG
attribute [local irreducible] Pur StepA StepM Ex X Fn Imp LeV LeB FnO It YStep FnW FnOW FnP FnD
set_option maxHeartbeats 4000000 in
theorem zdU (s : ByteArray) (hl : s.size <= 1000) : Fn Tryz.prog 31 [.str s] (sgsA (txK (txB s) s.size).1) := by
 refine Fn.go Tryz.func31 Tryz.ntmps31 (fun g w d => ?_)
 apply X.sr
 refine Ex.pu ?_
 apply Ex.ns
 refine Ex.pu ?_
 apply Ex.ns
 refine Ex.pu ?_
 refine Ex.pn ?_
 iterate 2 apply X.seq
 refine X.imp (Imp.mkrow sgE 67 17 3 30 rfl rfl) ?_
 have hz0 : [] = (txK (txB s) 0).1 := by unfold txK; simp
 have hz1 : false = (txK (txB s) 0).2.1 := by unfold txK; simp
 have hz2 : false = (txK (txB s) 0).2.2 := by unfold txK; simp
 apply X.region
 refine Ex.pn ?_
 apply X.block
 refine X.lp (ι := Nat) (fun (n : Nat) => [(0, .str s), (3, .own 30), (4, .bool (txK (txB s) n).2.1), (5, .bool (txK (txB s) n).2.2), (6, iv (n : Int))]) (fun (n : Nat) => [(30, .row sgE (txK (txB s) n).1 67 17)]) (fun (n : Nat) => n <= s.size) (fun (n : Nat) => s.size - n) 0 (fun n hk => ?_) (h0 := by
  exact Imp.ax)
 apply X.seq
 apply X.sr
 iterate 2 refine Ex.pu ?_
 refine Ex.pu (hs := by exact zil Tryz.underlying9 rfl) ?_
 refine Ex.pn ?_
 refine X.cd rfl ?_ ?_<;>intro hc1
 ·have hns : n < s.size := by omega
  have hb := zpD hns
  have hst := zn8 hb
  have hkl := zht (txB s) n
  have hv0 := zoY ((s[n]'hns).toNat : Int)
  apply X.skip
  apply X.seq
  apply X.block
  apply X.seq
  apply X.sr
  iterate 2 refine Ex.pu ?_
  refine Ex.pu (x := .int .u8 ((s[n]'hns).toNat : Int)) (hs := by exact zcA (s := s) (i := (n : Int)) Tryz.underlying9 rfl rfl (by omega) (by simpa using hns)) ?_
  apply Ex.nil
  apply X.block
  apply X.sr
  refine Ex.pu ?_
  refine Ex.pn ?_
  refine X.cd rfl ?_ ?_<;>intro hc2
  ·have hZ1 := zpU hst hc2
   obtain ⟨q1, q2, q3⟩ := hZ1
   apply X.sr
   refine Ex.pn ?_
   apply X.exit
   apply X.region
   iterate 2 refine Ex.pu ?_
   refine Ex.pn ?_
   refine X.bk (n + 1) (hI := Imp.ax)
  apply X.sr
  refine Ex.pu ?_
  refine Ex.pn ?_
  refine X.cd rfl ?_ ?_<;>intro hc3
  ·have hZ2 := zpV hst hc2 hc3
   obtain ⟨q1, q2, q3⟩ := hZ2
   apply X.sr
   refine Ex.pn ?_
   apply X.exit
   apply X.region
   iterate 2 refine Ex.pu ?_
   refine Ex.pn ?_
   refine X.bk (n + 1) (hI := Imp.ax)
  apply X.sr
  refine Ex.pu ?_
  refine Ex.pn ?_
  refine X.cd rfl ?_ ?_<;>intro hc4
  ·have hZ3 := zpW hst hc2 hc3 hc4
   obtain ⟨q1, q2, q3⟩ := hZ3
   rw [zoX] at q1
   apply X.region
   iterate 2 refine Ex.pu ?_
   refine Ex.bs sgE [⟨_, _, _, _, _, _, _, _, ⟨_, _, _, _⟩, _, _, _, _, _⟩] ?_
   refine Ex.mo ?_
   refine Ex.pn ?_
   apply X.region
   refine Ex.pu ?_
   refine Ex.pn ?_
   apply X.region
   iterate 2 refine Ex.pu ?_
   refine Ex.pn ?_
   refine X.bk (n + 1) (hI := Imp.ax)
  ·apply X.sr
   refine Ex.pu ?_
   refine Ex.pn ?_
   refine X.cd rfl ?_ ?_<;>intro hc5
   ·have hZ4 := zpX hst hc2 hc3 hc4 hc5
    obtain ⟨q1, q2, q3⟩ := hZ4
    apply X.skip
    apply X.region
    refine Ex.pu ?_
    refine Ex.pn ?_
    apply X.region
    iterate 2 refine Ex.pu ?_
    refine Ex.pn ?_
    refine X.bk (n + 1) (hI := Imp.ax)
   ·have hZ5 := zpY hst hc2 hc3 hc4 hc5
    obtain ⟨q1, q2, q3⟩ := hZ5
    apply X.sr
    refine Ex.pn ?_
    apply X.seq
    apply X.sr
    refine Ex.pn ?_
    apply X.block
    refine X.lp (ι := Nat) (fun (k : Nat) => [(0, .str s), (3, .own 30), (4, .bool (txK (txB s) n).2.1), (5, .bool (txK (txB s) n).2.2), (6, iv (n : Int)), (7, iv (txV ((s[n]'hns).toNat : Int) k)), (8, iv (k : Int))]) (fun (k : Nat) => [(30, .row sgE (txK (txB s) n).1 67 17)]) (fun (k : Nat) => k <= 8) (fun (k : Nat) => 8 - k) 0 (fun k hk => ?_) (h0 := by
     exact Imp.ax)
    apply X.seq
    apply X.sr
    refine Ex.pu ?_
    refine Ex.pn ?_
    refine X.cd rfl ?_ ?_<;>intro hc6
    ·have hle := znd k (by show ((k : Int)).toNat < 8; omega)
     apply X.skip
     apply X.seq
     apply X.block
     apply X.seq
     refine X.dw [23,24,25,26,27,28] [0,1,0,0,12,31] mo ?_
     refine ChM.pu ?_
     refine ChM.pu ?_ (hs := by exact zcA (i := (k : Int)) Tryz.underlying9 rfl rfl (by omega) (by show ((k : Int)).toNat < 8; omega))
     iterate 2 refine ChM.pu ?_
     refine ChM.pu ?_ (hs := by exact zcA (s := s) (i := (n : Int)) Tryz.underlying9 rfl rfl (by omega) (by simpa using hns))
     refine ChM.pu ?_
     refine ChM.tl ?_
     apply Ex.nil
     refine X.cd rfl ?_ ?_<;>intro hc7
     ·have hvt : txV ((s[n]'hns).toNat : Int) (k + 1) = (k : Int) + 1 := zoT (hle.symm.trans hc7)
      apply X.region
      iterate 2 refine Ex.pu ?_
      refine Ex.pn ?_
      apply X.region
      iterate 2 refine Ex.pu ?_
      refine Ex.pn ?_
      refine X.bk (k + 1) (hI := Imp.ax)
     ·have hvt : txV ((s[n]'hns).toNat : Int) (k + 1) = txV ((s[n]'hns).toNat : Int) k := zoU (fun e => hc7 (hle.trans e))
      apply X.skip
      apply X.region
      iterate 2 refine Ex.pu ?_
      refine Ex.pn ?_
      refine X.bk (k + 1) (hI := Imp.ax)
    ·obtain rfl : k = 8 := by omega
     apply X.exit
     apply X.sr
     iterate 3 refine Ex.pu ?_
     refine Ex.al ?_
     refine Ex.mo ?_
     apply Ex.nil
     apply X.seq
     apply X.sr
     refine Ex.pn ?_
     refine X.cd rfl ?_ ?_<;>intro hc8
     ·rw [zoV (by simpa using hc8)] at q1
      apply X.region
      iterate 2 refine Ex.pu ?_
      refine Ex.mo ?_
      apply Ex.nil
      apply X.region
      iterate 2 refine Ex.pu ?_
      refine Ex.bs sgE [⟨_, _, _, _, _, _, _, _, ⟨_, _, _, _⟩, _, _, _, _, _⟩] ?_
      refine Ex.mo ?_
      refine Ex.pn ?_
      apply X.region
      refine Ex.pu ?_
      refine Ex.pn ?_
      apply X.region
      iterate 2 refine Ex.pu ?_
      refine Ex.pn ?_
      refine X.bk (n + 1) (hI := Imp.ax)
     ·rw [zoW (by simpa using hc8)] at q1
      apply X.skip
      apply X.region
      iterate 2 refine Ex.pu ?_
      refine Ex.bs sgE [⟨_, _, _, _, _, _, _, _, ⟨_, _, _, _⟩, _, _, _, _, _⟩] ?_
      refine Ex.mo ?_
      refine Ex.pn ?_
      apply X.region
      refine Ex.pu ?_
      refine Ex.pn ?_
      apply X.region
      iterate 2 refine Ex.pu ?_
      refine Ex.pn ?_
      refine X.bk (n + 1) (hI := Imp.ax)
 ·obtain rfl : n = s.size := by omega
  apply X.exit
  apply X.sr
  refine Ex.pu ?_
  refine Ex.pn ?_
  refine X.ret ?_
  refine RetQ.imp (Imp.freeze (k := 30) rfl) ?_
  refine RetQ.r1 ?_
  all_goals (first | rfl | (simp_all; done))
end Go.Rse
namespace Go.Rse
open Go Go.Proofs
section
variable {m : Mn} {l : List Sg}
end
theorem zjT {m : Mn} {I : List Ite} (h0 : ckM m = 0) (h1 : ckIE I = 0) (h : leE m I = 0) : ∀ n, n <= (perfL m).length -> LvJ m (perfL m) I n
 | 0, _ => LvJ.z m _ I
 | n + 1, hn => by
  have ih := zjT h0 h1 h n (by omega)
  have hk : (perfL m)[n]? = some ((perfL m)[n]'(by omega)) := Go.Rse.L.gg (by omega)
  refine ih.s hk (Classical.byContradiction fun he => ?_)
  have := (zpI h0 h1 ih hk he).1
  rw [h] at this; exact he this.symm
theorem zn7 {m : Mn} {I : List Ite} (h0 : ckM m = 0) (h1 : ckIE I = 0) (h : leE m I = 0) : (lvN m (perfL m) I (perfL m).length).1 = leC m I /\ (lvN m (perfL m) I (perfL m).length).2 = leI m I :=
 (zpJ h0 h1 (zjT h0 h1 h (perfL m).length (Nat.le_refl _)) rfl).2
theorem zp1 {m : Mn} {I : List Ite} (h : leE m I = 0) : ckM m = 0 /\ ckIE I = 0 := by
 have h0 : ckM m = 0 := Classical.byContradiction fun h2 => h2 ((zpG h2).1.symm.trans h)
 exact ⟨h0, Classical.byContradiction fun h2 => h2 ((zpH h0 h2).1.symm.trans h)⟩
theorem zmn (m : Mn) (I : List Ite) : (leC m I).length <= 4 * (2 * I.length + 2) := by
 by_cases h : leE m I = 0
 ·obtain ⟨hM, hI⟩ := zp1 h
  rw [← (zn7 hM hI h).1]
  have h1 := (zjT hM hI h (perfL m).length (Nat.le_refl _)).cho
  have h2 := Nat.mul_le_mul_right (2 * I.length + 2) (zhv m)
  omega
 ·unfold leC; rw [if_neg h]; simp
end Go.Rse
namespace Go.Rse
open Go Go.Proofs Go.RowKit
def txL (s : ByteArray) : List Sg := (txK (txB s) s.size).1
def itQ (m : Mn) (l : List Sg) : List Ite := itK l (mkK (ruleR m l) l l.length).1 (mkK (ruleR m l) l l.length).2.1 (dvK m l (markK (pairL m l) (twos (pairL m l).length) (pairL m l).length) l.length) l.length
theorem zoZ {m : Mn} {l : List Sg} (h : ckR m l = 0) : rdI m l = itQ m l := by
 have h0 := ckDR h
 have k1 := ziV (zcR h0).1 h0
 have k2 := ziW h0
 unfold rdI
 rw [zkV (by unfold itmE; rw [if_pos k1, k2]), ← zm2 k2.symm]
 unfold mkC mkA duM
 rw [if_pos k1, if_pos k1, prR h rfl, zmm h0]; rfl
def rdB (m : Mn) (l : List Sg) (D : List Tm) : Bool := decide (ckR m l = 0) && decide (ckIE (itQ m l) = 0) && decide ((lvF m (perfL m) (itQ m l) []).2.2 = 0) && decide ((lvF m (perfL m) (itQ m l) []).2.1.map (·.Dur) = D)
theorem zne {m : Mn} {l : List Sg} {D : List Tm} (h : rdB m l D = true) : rdE m l = 0 /\ (rdV m l).Durs = D := by
 unfold rdB at h
 simp only [Bool.and_eq_true, decide_eq_true_eq] at h
 obtain ⟨⟨⟨h1, h2⟩, h3⟩, h4⟩ := h
 have h0 := ckDR h1
 rw [← zoZ h1] at h2 h3 h4
 have hl : leE m (rdI m l) = 0 := by unfold leE; rw [if_pos (zcR h0).1, if_pos h2]; exact h3
 obtain ⟨e1, e2⟩ := zpS h0 hl
 refine ⟨e1, ?_⟩
 rw [e2]
 show (leI m (rdI m l)).map (·.Dur) = D
 unfold leI; rw [if_pos hl]; exact h4
attribute [local irreducible] Pur StepA StepM Ex X Fn Imp LeV LeB FnO It YStep FnW FnOW FnP FnD
theorem zo0 (s : ByteArray) (hl : s.size <= 1000) : Fn Tryz.prog 31 [.str s] (sgsA (txL s)) := zdU s hl
theorem zlu (s : ByteArray) : (txL s).length <= s.size := zht _ _
attribute [local irreducible] txL rdE rdV hfT
theorem zdg (tem pro : Int) (s : ByteArray) (l : List Int) (hs : s.size <= 1000) (hl : l.length <= 1000) (hb : ∀ x ∈ l, 0 <= x /\ x <= 1000000) : Fn Tryz.prog 29 [iv tem, iv pro, .str s, intsA l] (.bool (decide (rdE ⟨2, 2, tem, pro⟩ (txL s) = 0) && decide ((rdV ⟨2, 2, tem, pro⟩ (txL s)).Durs = l.map hfT))) := by
 have ht := zlu s
 have hd := zmp (m := ⟨2, 2, tem, pro⟩) (l := txL s)
 refine Fn.go Tryz.func29 Tryz.ntmps29 (fun g w d => ?_)
 apply X.sr
 refine Ex.pu ?_
 apply Ex.ns
 iterate 4 refine Ex.pu ?_
 refine Ex.ca (zo0 s hs) ?_
 refine Ex.ca (zhy ⟨2, 2, tem, pro⟩ (txL s) (by omega)) ?_
 iterate 5 refine Ex.pu ?_
 apply Ex.ns
 iterate 2 refine Ex.pu ?_
 refine ExF.at 2 ?_
 refine ExF.pu ?_
 iterate 2 refine ExF.gi ?_
 refine ExF.cg (zcW l hl hb) ?_
 refine ExF.cg (zcs (rdV ⟨2, 2, tem, pro⟩ (txL s)).Durs (l.map hfT) (by omega)) ?_
 refine ExF.done ?_
 refine Ex.pu ?_
 refine Ex.pn ?_
 refine X.ret ?_
 refine RetQ.r1 ?_
 all_goals (first | rfl | (simp_all; done))
def rdK (tem pro : Int) (a : Array UInt8) (l : List Int) : Bool := decide (a.size <= 1000) && decide (l.length <= 1000) && (l.all fun x => decide (0 <= x) && decide (x <= 1000000)) && rdB ⟨2, 2, tem, pro⟩ (txL ⟨a⟩) (l.map hfT)
theorem zkf (tem pro : Int) (a : Array UInt8) (l : List Int) (h : rdK tem pro a l = true) : Fn Tryz.prog 29 [iv tem, iv pro, .str ⟨a⟩, intsA l] (.bool true) := by
 unfold rdK at h
 simp only [Bool.and_eq_true, decide_eq_true_eq, List.all_eq_true] at h
 obtain ⟨⟨⟨h1, h2⟩, h3⟩, h4⟩ := h
 have hR := zdg tem pro ⟨a⟩ l h1 h2 h3
 obtain ⟨e1, e2⟩ := zne h4
 rw [e1, e2] at hR
 simpa using hR
set_option maxHeartbeats 4000000 in
theorem zbz  : Fn Tryz.prog 16 [] (.bool true) := by
 refine Fn.go Tryz.func16 Tryz.ntmps16 (fun g w d => ?_)
 apply X.sr
 refine Ex.pu ?_
 apply Ex.ns
 refine Ex.stepA (za4 (enc := intE) (l := [8, 4, 12]) sl27 ty3 ze3 (by decide) rfl rfl rfl rfl (by decide) (by decide) (fun _ => rfl) rfl) rfl rfl ?_
 refine Ex.ca (zkf 3 2 #[66, 32, 83, 32, 66] [8, 4, 12] (by kernel_rfl)) ?_
 refine Ex.pu ?_
 refine Ex.unguard rfl rfl rfl ?_
 refine Ex.stepA (za4 (enc := intE) (l := [12, 4, 8, 12]) sl27 ty3 ze3 (by decide) rfl rfl rfl rfl (by decide) (by decide) (fun _ => rfl) rfl) rfl rfl ?_
 refine Ex.unguard rfl rfl rfl ?_
 refine Ex.ca (zkf 3 2 #[66, 32, 83, 32, 83, 32, 66] [12, 4, 8, 12] (by kernel_rfl)) ?_
 iterate 2 refine Ex.pu ?_
 refine Ex.unguard rfl rfl rfl ?_
 refine Ex.stepA (za4 (enc := intE) (l := [4, 2, 4, 2, 6]) sl27 ty3 ze3 (by decide) rfl rfl rfl rfl (by decide) (by decide) (fun _ => rfl) rfl) rfl rfl ?_
 refine Ex.unguard rfl rfl rfl ?_
 refine Ex.ca (zkf 2 3 #[83, 32, 77, 32, 83, 32, 77, 32, 83] [4, 2, 4, 2, 6] (by kernel_rfl)) ?_
 iterate 2 refine Ex.pu ?_
 refine Ex.unguard rfl rfl rfl ?_
 refine Ex.stepA (za4 (enc := intE) (l := [4, 3, 1, 2]) sl27 ty3 ze3 (by decide) rfl rfl rfl rfl (by decide) (by decide) (fun _ => rfl) rfl) rfl rfl ?_
 refine Ex.unguard rfl rfl rfl ?_
 refine Ex.ca (zkf 2 2 #[83, 32, 77, 32, 46, 32, 81, 32, 77] [4, 3, 1, 2] (by kernel_rfl)) ?_
 refine Ex.pu ?_
 refine Ex.pn ?_
 refine X.ret ?_
 refine RetQ.r1 ?_
 all_goals (first | rfl | simp)
end Go.Rse
namespace Go.Rse
open Go Go.Proofs Go.RowKit
section
variable {P : Program} {C : Ctx} {st : St} {ty : TypeId}
end
attribute [local irreducible] Pur StepA StepM Ex X Fn Imp LeV LeB FnO It YStep
attribute [local irreducible] sumE sumV sumF firstT ckT addE addV
theorem zcV (l : List Ite) (hl : l.length <= 4000) : Fn Tryz.prog 17 [itsA l] (itsA l) := by
 refine Fn.go Tryz.func17 Tryz.ntmps17 (fun g w d => ?_)
 apply X.sr
 refine Ex.pu ?_
 apply Ex.ns
 refine Ex.bs itE [] ?_
 refine Ex.pu ?_
 refine Ex.mo ?_
 refine Ex.pn ?_
 refine X.ret ?_
 refine RetQ.imp (Imp.freeze (k := 3) rfl) ?_
 refine RetQ.r1 ?_
 all_goals (first | rfl | (simp; rfl))
end Go.Rse
namespace Go.Rse
open Go Go.Proofs
attribute [local irreducible] Pur StepA StepM Ex X Fn Imp LeV LeB FnO It YStep
end Go.Rse
namespace Go.Rse
open Go Go.Proofs
attribute [local irreducible] Pur StepA StepM Ex X Fn Imp LeV LeB FnO It YStep FnW FnOW FnP FnD
attribute [local irreducible] rdE rdV cuV cuE leC leI leE
set_option maxHeartbeats 4000000 in
theorem C_tactuslaw17_RuleChooses (m : Mn) (k : Int) (l : List Ite) (h0 : -9223372036854775808 <= k) (h1 : k <= 9223372036854775807) : Fn Tryz.prog 3 [mnA m, iv k, itsA l] (.bool true) := by
 have b1 := ze6 (m := m) (k := k) (l := l)
 have b2 := zmn m l
 have b3 := zhw m l
 refine Fn.go Tryz.func3 Tryz.ntmps3 (fun g w d => ?_)
 apply X.sr
 refine Ex.ba ?_
 refine Ex.pn ?_
 apply X.seq
 apply X.sr
 iterate 2 refine Ex.pu ?_
 refine Ex.pn ?_
 refine X.cd rfl ?_ ?_<;>intro hc1
 ·apply X.sr
  refine Ex.ca zbz ?_
  refine Ex.pn ?_
  refine X.ret ?_
  refine RetQ.r1 ?_
  all_goals (first | rfl | simp)
 apply X.skip
 apply X.sr
 refine Ex.pu ?_
 refine Ex.ca (zcV l (by omega)) ?_
 refine Ex.pu ?_
 apply Ex.ns
 iterate 3 refine Ex.pu ?_
 refine Ex.ca (zcc m k l h0 h1 (by omega)) ?_
 iterate 5 refine Ex.pu ?_
 apply Ex.ns
 iterate 3 refine Ex.pu ?_
 refine Ex.ca (zbu m k l h0 h1 (by omega)) ?_
 iterate 5 refine Ex.pu ?_
 apply Ex.ns
 iterate 2 refine Ex.pu ?_
 refine Ex.ca (zdS m l (by omega)) ?_
 iterate 7 refine Ex.pu ?_
 apply Ex.ns
 iterate 2 refine Ex.pu ?_
 refine Ex.ca (zc2 m l (by omega)) ?_
 iterate 7 refine Ex.pu ?_
 apply Ex.ns
 iterate 2 refine Ex.pu ?_
 refine Ex.ca (zgl (cuV m k l) (by omega)) ?_
 refine ExF.at 3 ?_
 refine ExF.pu ?_
 iterate 3 refine ExF.gi ?_
 iterate 2 refine ExF.pu ?_
 iterate 2 refine ExF.gi ?_
 refine ExF.cg (zgl (leC m l) (by omega)) ?_
 iterate 2 refine ExF.pu ?_
 iterate 2 refine ExF.gi ?_
 refine ExF.cg (zfm (leI m l) (by omega)) ?_
 iterate 2 refine ExF.pu ?_
 iterate 3 refine ExF.gi ?_
 iterate 2 refine ExF.pu ?_
 iterate 2 refine ExF.gi ?_
 refine ExF.cg (zfm l (by omega)) ?_
 iterate 2 refine ExF.pu ?_
 refine ExF.cg zbz ?_
 refine ExF.done ?_
 refine Ex.pu ?_
 refine Ex.pn ?_
 refine X.ret ?_
 refine RetQ.r1 ?_
 all_goals (first | rfl | simp)
end Go.Rse
