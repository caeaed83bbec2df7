/-
  Walks: pairs of minor color.
-/
import Derived.Test.YtbilklnipfabpaaGreatDoorZJFull1
import Derived.Test.YtbilklnipfabpaaGreatDoorZJDot5
import Derived.Test.YtbilklnipfabpaaGreatDoorZJSpan1
import Derived.Test.YtbilklnipfabpaaGreatDoorZLogB
import Derived.Test.YtbilklnipfabpaaGreatDoorZLogC
set_option linter.unusedSimpArgs false
set_option linter.unusedVariables false
namespace Go.Rse
open Go Go.Proofs
attribute [local irreducible] Pur yD yE Ex X Fn Imp LeV LeB FnO It yH
theorem zlY {l : List Sg} {i : Int} (h : (((((l.length : Int) <= i + 1 \/ clr (l.getD i.toNat default) = false) \/ ¬ (l.getD i.toNat default).Value = 4) \/ clr (l.getD (i + 1).toNat default) = false) \/ ¬ (l.getD (i + 1).toNat default).Value = 5)) : zaz l i = false := by
 unfold zaz;rcases h with (((h | h) | h) | h) | h
 ·rw [decide_eq_false (show ¬ i + 1 < (l.length : Int) by omega)]; simp
 ·rw [h]; simp
 ·rw [decide_eq_false h]; simp
 ·rw [h]; simp
 ·rw [decide_eq_false h]; simp
theorem zlm {l : List Sg} {i : Int} (h : (((i + 1 < (l.length : Int) /\ clr (l.getD i.toNat default) = true) /\ (l.getD i.toNat default).Value = 4) /\ clr (l.getD (i + 1).toNat default) = true) /\ (l.getD (i + 1).toNat default).Value = 5) : zaz l i = (!(decide (i + 2 < (l.length : Int)) && decide ((l.getD (i + 2).toNat default).Kind = 3)) && frB (ze2 l (-1) (i - 1)) && frB (ze2 l 1 (i + 2))) := by
 unfold zaz;rw [decide_eq_true h.1.1.1.1, h.1.1.1.2, decide_eq_true h.1.1.2, h.1.2, decide_eq_true h.2]; rfl
attribute [local irreducible] zaz ze2 frB clr
theorem zd2 (l : List Sg) (hl : l.length <= 4000000000) (i : Int) (h0 : 0 <= i) (h1 : i < (l.length : Int)) : Fn Tryz.prog 193 [sgsA l, iv i] (.bool (zaz l i)) := by
 refine Fn.go Tryz.func193 Tryz.ntmps193 (fun g w d => ?_);apply yb;refine yd ?_;apply ye;apply yb;iterate 5 refine ya ?_
 refine ExF.at 5 ?_;refine yF ?_;iterate 4 refine ExF.gi ?_
 refine ExF.cg (zao _) ?_;refine ExF.gi ?_;iterate 2 refine yF ?_
 iterate 6 refine ExF.gi ?_
 iterate 2 refine yF ?_
 iterate 5 refine ExF.gi ?_
 refine ExF.cg (zao _) ?_;refine ExF.gi ?_;iterate 2 refine yF ?_
 iterate 7 refine ExF.gi ?_
 refine yC ?_;refine yd ?_;refine ym rfl ?_ ?_<;>intro hc1
 ·apply yb;refine yd ?_;refine X.ret ?_;refine yn ?_;all_goals (rw [zlY hc1])
 apply yf;apply yb;iterate 5 refine ya ?_
 refine ExF.at 5 ?_;refine yF ?_;iterate 7 refine ExF.gi ?_
 refine yC ?_;iterate 2 refine ya ?_
 apply yk;iterate 2 refine ya ?_
 refine ExF.at 2 ?_;refine yF ?_;iterate 3 refine ExF.gi ?_
 refine ExF.cg (zd7 l hl (i - 1) (-1) (.inr rfl) (by omega) (by omega) (by omega)) ?_;iterate 2 refine yF ?_
 iterate 3 refine ExF.gi ?_
 refine ExF.cg (zd7 l hl (i + 2) 1 (.inl rfl) (by omega) (by omega) (by omega)) ?_;refine yC ?_;refine yg ?_;refine X.ret ?_;refine yn ?_;all_goals (rw [zlm hc1])
end Go.Rse
namespace Go.Rse
open Go Go.Proofs
theorem ziO (a : Int) : coll posI [a] = if 0 < a then [a] else [] := by
 unfold coll dl posI srtI;by_cases h : 0 < a
 ·simp only [h, if_true, List.filter_cons, decide_true, Bool.not_true, Bool.not_false, List.filter_nil, List.mergeSort_singleton];simp [Lib.compact, Lib.compactUpTo, Lib.keeps, List.range_succ]
 ·simp only [h, if_false, List.filter_cons, decide_false, Bool.not_true, Bool.not_false, List.filter_nil, List.mergeSort_nil];simp [Lib.compact, Lib.compactUpTo]
theorem srt2 {a v : Int} (h : a < v) : srtI [v, a] = [a, v] := by
 unfold srtI;have h1 : ¬ v <= a := by omega
 simp [List.mergeSort, List.MergeSort.Internal.splitInTwo, List.merge, h1]
theorem zlZ {v a : Int} (hv : 0 < v) (ha : a < v) : coll posI [v, a] = if 0 < a then [a, v] else [v] := by
 unfold coll;by_cases h : 0 < a
 ·have e : dl (fun v => !posI v) [v, a] = [v, a] := by simp [dl, posI, h, hv]
  rw [e, srt2 ha, if_pos h];have h2 : ¬ v = a := by omega
  have h3 : ¬ a = v := by omega
  simp [Lib.compact, Lib.compactUpTo, Lib.keeps, List.range_succ, h2, h3]
 ·have e : dl (fun v => !posI v) [v, a] = [v] := by simp [dl, posI, h, hv]
  rw [e, if_neg h];simp [srtI, Lib.compact, Lib.compactUpTo, Lib.keeps, List.range_succ]
theorem zqR (m : Mn) {v : Int} (h : 1 <= v) : 0 <= m.ab v /\ m.ab v < v := by
 unfold Mn.ab;cases e : (perfL m).find? fun k => decide (k < v) with
 | none => simp; omega
 | some k =>
  have h1 := List.find?_some e;have h2 := List.mem_of_find?_eq_some e;have h3 := (List.mem_filter.1 h2).1;simp at h1 h3 ⊢;omega
theorem p23 {m : Mn} {v : Int} (hM : ckM m = 0) : m.p v = 2 \/ m.p v = 3 := by
 have hO : m.Ok := by
  unfold ckM at hM; split at hM
  ·assumption
  ·omega
 obtain ⟨a, b, c, d⟩ := hO;unfold two3 at *
 unfold Mn.p;split
 ·assumption
 ·split
  ·assumption
  ·split
   ·assumption
   ·split
    ·assumption
    ·exact .inl rfl
theorem zha {m : Mn} {v : Int} (hM : ckM m = 0) (h1 : 1 <= v) (h2 : v <= 8) : ckMV m v = 0 := by
 have hO : m.Ok := by
  unfold ckM at hM; split at hM
  ·assumption
  ·omega
 unfold ckMV; rw [if_pos hO, if_pos ⟨h1, h2⟩]
theorem zhQ {m : Mn} {v : Int} (h1 : 1 <= v) : 0 <= m.aV v /\ m.aV v < v := by
 have := zqR m h1;unfold Mn.aV;split
 ·exact this
 ·omega
def mngR (m : Mn) (s : Sg) : List Int :=
 if s.Kind = 2 then [m.aV s.Value] else if s.Color = true then [0] else if m.p s.Value = 2 /\ m.aV s.Value = 0 then [0] else if m.p s.Value = 2 then [0, m.aV s.Value] else if m.aV s.Value = 0 then [s.Value] else [m.aV s.Value, s.Value]
theorem zhR {m : Mn} {s : Sg} (hM : ckM m = 0) (h1 : 1 <= s.Value) (h2 : s.Value <= 8) (hz : ¬ (s.Kind = 2 /\ m.aV s.Value = 0)) : mngs m s = mngR m s := by
 have ha := zhQ (m := m) h1;have hp := p23 (m := m) (v := s.Value) hM;have hpV : m.pV s.Value = m.p s.Value := by unfold Mn.pV; rw [if_pos (zha hM h1 h2)]
 unfold mngs mngR;rw [hpV, ziO];by_cases hK : s.Kind = 2
 ·have : 0 < m.aV s.Value := by
   have : ¬ m.aV s.Value = 0 := fun h => hz ⟨hK, h⟩
   omega
  rw [if_pos hK, if_pos hK, if_pos this]
 ·rw [if_neg hK, if_neg hK];by_cases hC : s.Color = true
  ·rw [if_pos hC, if_pos hC]
  ·rw [if_neg hC, if_neg hC];rcases hp with hp | hp
   ·by_cases h0 : m.aV s.Value = 0
    ·simp [hp, h0]
    ·have h4 : 0 < m.aV s.Value := by omega
     simp [hp, h0, h4]
   ·rw [zlZ (by omega) ha.2];by_cases h0 : m.aV s.Value = 0
    ·simp [hp, h0]
    ·have h4 : 0 < m.aV s.Value := by omega
     simp [hp, h0, h4]
theorem zb0 {m : Mn} {s : Sg} (hM : ckM m = 0) (h1 : 1 <= s.Value) (h2 : s.Value <= 8) : (mngs m s).length = 0 ↔ (s.Kind = 2 /\ m.aV s.Value = 0) := by
 constructor
 ·intro h;refine Classical.byContradiction fun hz => ?_
  rw [zhR hM h1 h2 hz] at h;unfold mngR at h;split at h
  ·simp at h
  ·split at h
   ·simp at h
   ·split at h
    ·simp at h
    ·split at h
     ·simp at h
     ·split at h <;> simp at h
 ·rintro ⟨hK, h0⟩
  unfold mngs;rw [if_pos hK, ziO, if_neg (by omega)]; rfl
def sgR (m : Mn) (l : List Sg) (k : Nat) (s : Sg) : Int :=
 if s.Kind = 1 \/ s.Kind = 2 then (if 1 <= s.Value /\ s.Value <= 8 then 0 else 2)
 else if s.Kind = 3 then (match k with | 0 => 13 | j + 1 => match l[j]? with | some p => if p.Kind = 3 \/ (p.Kind = 2 /\ m.aV p.Value = 0) then 13 else 0 | none => 13)
 else 8
def zbf (m : Mn) (l : List Sg) : Nat -> List Sg -> Int
 | _, [] => 0
 | k, s :: r => if sgR m l k s = 0 then zbf m l (k + 1) r else sgR m l k s
def ckR (m : Mn) (l : List Sg) : Int := if ckM m = 0 then zbf m l 0 l else ckM m
theorem zfP {m : Mn} {l : List Sg} {k : Nat} {s : Sg} (h : l[k]? = some s) (h0 : sgR m l k s = 0) : zbf m l k (l.drop k) = zbf m l (k + 1) (l.drop (k + 1)) := by
 have hk : k < l.length := (List.getElem?_eq_some_iff.1 h).1;rw [List.drop_eq_getElem_cons hk];have : l[k] = s := (List.getElem?_eq_some_iff.1 h).2;rw [this]; simp only [zbf, h0, if_true]
theorem ziP {m : Mn} {l : List Sg} {k : Nat} {s : Sg} (h : l[k]? = some s) (h0 : sgR m l k s ≠ 0) : zbf m l k (l.drop k) = sgR m l k s := by
 have hk : k < l.length := (List.getElem?_eq_some_iff.1 h).1;rw [List.drop_eq_getElem_cons hk];have : l[k] = s := (List.getElem?_eq_some_iff.1 h).2;rw [this]; simp only [zbf, if_neg h0]
theorem zkr {m : Mn} {l : List Sg} {k : Nat} {s : Sg} (h0 : sgF m l k s = 0) (hK : s.Kind ≠ 3) : (s.Kind = 1 \/ s.Kind = 2) /\ 1 <= s.Value /\ s.Value <= 8 := by
 unfold sgF at h0;by_cases h : s.Kind = 1 \/ s.Kind = 2
 ·rw [if_pos h] at h0;refine ⟨h, ?_⟩;by_cases hv : 1 <= s.Value /\ s.Value <= 8
  ·exact hv
  ·rw [if_neg hv] at h0; simp at h0
 ·rw [if_neg h, if_neg hK] at h0; simp at h0
theorem zsn {m : Mn} {l : List Sg} {k : Nat} {s : Sg} (hM : ckM m = 0) (hs : l[k]? = some s) (hb : ∀ i s, i < k -> l[i]? = some s -> sgF m l i s = 0) : sgF m l k s = sgR m l k s := by
 unfold sgF sgR;by_cases h : s.Kind = 1 \/ s.Kind = 2
 ·rw [if_pos h, if_pos h]
 ·rw [if_neg h, if_neg h];by_cases h3 : s.Kind = 3
  ·rw [if_pos h3, if_pos h3];cases k with
   | zero => rfl
   | succ j =>
    cases hp : l[j]? with
    | none => simp only [hp]
    | some p =>
     simp only [hp];by_cases hk3 : p.Kind = 3
     ·rw [if_pos (.inl hk3), if_pos (.inl hk3)]
     ·obtain ⟨_, h1, h2⟩ := zkr (hb j p (by omega) hp) hk3;by_cases hz : (mngs m p).length = 0
      ·rw [if_pos (.inr hz), if_pos (.inr ((zb0 hM h1 h2).1 hz))]
      ·rw [if_neg (fun h => h.elim hk3 hz), if_neg (fun h => h.elim hk3 (fun h => hz ((zb0 hM h1 h2).2 h)))]
  ·rw [if_neg h3, if_neg h3]
theorem ziQ {m : Mn} {l : List Sg} (hM : ckM m = 0) : ∀ (n k : Nat), l.length - k = n -> k <= l.length -> (∀ i s, i < k -> l[i]? = some s -> sgF m l i s = 0) -> zL m l k (l.drop k) = zbf m l k (l.drop k)
 | 0, k, hn, hk, hb => by
  rw [List.drop_of_length_le (by omega)]; rfl
 | n + 1, k, hn, hk, hb => by
  have hs : l[k]? = some l[k] := lgg (by omega);have he := zsn hM hs hb;by_cases h0 : sgF m l k l[k] = 0
  ·rw [zb6 hs h0, zfP hs (by rw [← he]; exact h0)];refine ziQ hM n (k + 1) (by omega) (by omega) fun i s hi hsi => ?_
   rcases Nat.lt_succ_iff_lt_or_eq.1 hi with h | h
   ·exact hb i s h hsi
   ·subst h; rw [hs] at hsi; injection hsi with hsi; subst hsi; exact h0
  ·rw [zaZ hs h0, ziP hs (by rw [← he]; exact h0), he]
theorem zso (m : Mn) (l : List Sg) : ckD m l = ckR m l := by
 unfold ckD ckR;by_cases hM : ckM m = 0
 ·rw [if_pos hM, if_pos hM];have := ziQ (l := l) hM l.length 0 rfl (Nat.zero_le _) (fun i s h => absurd h (Nat.not_lt_zero i));simpa using this
 ·rw [if_neg hM, if_neg hM]
theorem zfQ {m : Mn} {l : List Sg} (h : ckD m l = 0) : ckM m = 0 /\ zL m l 0 l = 0 := by
 unfold ckD at h;by_cases hM : ckM m = 0
 ·rw [if_pos hM] at h; exact ⟨hM, h⟩
 ·rw [if_neg hM] at h; exact absurd h hM
theorem zqS {m : Mn} {l : List Sg} (h : ckD m l = 0) {j : Nat} {s p : Sg} (hs : l[j + 1]? = some s) (h3 : s.Kind = 3) (hp : l[j]? = some p) :
 p.Kind ≠ 3 /\ (p.Kind = 1 \/ p.Kind = 2) /\ 1 <= p.Value /\ p.Value <= 8 /\ ¬ (p.Kind = 2 /\ m.aV p.Value = 0) /\ mngs m p = mngR m p := by
 obtain ⟨hM, hF⟩ := zfQ h;have hall := (zae hF l.length (Nat.le_refl _)).2;have h0 := hall (j + 1) s (List.getElem?_eq_some_iff.1 hs).1 hs;unfold sgF at h0;rw [if_neg (by omega), if_pos h3] at h0;simp only [hp] at h0;have hk : ¬ (p.Kind = 3 \/ (mngs m p).length = 0) := fun h => by rw [if_pos h] at h0; simp at h0
 have hk3 : p.Kind ≠ 3 := fun h => hk (.inl h)
 obtain ⟨h5, h1, h2⟩ := zkr (hall j p (List.getElem?_eq_some_iff.1 hp).1 hp) hk3;have hz : ¬ (p.Kind = 2 /\ m.aV p.Value = 0) := fun h => hk (.inr ((zb0 hM h1 h2).2 h))
 exact ⟨hk3, h5, h1, h2, hz, zhR hM h1 h2 hz⟩
theorem zfR {l : List Sg} : ∀ (k : Nat) (x : Int), x ∈ yK l k -> ∃ (j : Nat) (s : Sg), x = (j : Int) /\ l[j]? = some s /\ s.Kind = 3
 | 0, x, hx => by simp [yK] at hx
 | k + 1, x, hx => by
  simp only [yK, List.mem_append] at hx;rcases hx with hx | hx
  ·exact zfR k x hx
  ·cases hs : l[k]? with
   | none => simp [hs] at hx
   | some s =>
    simp only [hs] at hx;split at hx
    ·rename_i hK; simp at hx; exact ⟨k, s, hx, hs, hK⟩
    ·simp at hx
theorem zog {m : Mn} {l : List Sg} (h : ckD m l = 0) {x : Int} (hx : x ∈ yK l l.length) : ∃ (j : Nat) (s p : Sg), x = ((j + 1 : Nat) : Int) /\ l[j + 1]? = some s /\ s.Kind = 3 /\ l[j]? = some p /\ zfa l x = some p := by
 obtain ⟨j, s, p, h1, h2, h3⟩ := zdr (zfQ h).2 l.length (Nat.le_refl _) x hx;obtain ⟨j', s', h4, h5, h6⟩ := zfR l.length x hx;have : j' = j + 1 := by omega
 subst this;rw [h2] at h5; injection h5 with h5; subst h5;refine ⟨j, s, p, h1, h2, h6, h3, ?_⟩;unfold zfa;rw [show (x - 1).toNat = j by omega]; exact h3
def ownV : List Int -> Int -> Int
 | [], _ => 0
 | x :: r, v => if x = 0 \/ x = v then x else ownV r v
def zfz (m : Mn) (l : List Sg) (i : Int) (p : Sg) : Int :=
 if (mngR m p).length = 1 then (mngR m p).headD 0 else if zhf l i > p.Value then ownV (mngR m p) p.Value else m.aV p.Value
theorem zl0 {m : Mn} {l : List Sg} {i : Int} {p : Sg} (hM : ckM m = 0) (h1 : 1 <= p.Value) (h2 : p.Value <= 8) (he : mngs m p = mngR m p) : zeG m l i p = zfz m l i p := by
 have ha := zhQ (m := m) h1;have hp := p23 (m := m) (v := p.Value) hM;have hpV : m.pV p.Value = m.p p.Value := by unfold Mn.pV; rw [if_pos (zha hM h1 h2)]
 unfold zeG zfz;rw [he, hpV];unfold mngR;split
 ·simp
 ·split
  ·simp
  ·split
   ·simp
   ·split
    ·rename_i h3 h4 h5 h6;have : ¬ m.aV p.Value = 0 := fun h => h5 ⟨h6, h⟩
     by_cases hn : zhf l i <= p.Value
     ·simp [hn]; omega
     ·simp [hn, ownV, h6]
    ·split
     ·simp
     ·rename_i h3 h4 h5 h6 h7;by_cases hn : zhf l i <= p.Value
      ·simp [hn]; omega
      ·have h8 : m.p p.Value = 3 := by omega
       have h9 : ¬ m.aV p.Value = p.Value := by omega
       simp [hn, ownV, h8, h7, h9]
end Go.Rse
namespace Go.Rse
open Go Go.Proofs
attribute [local irreducible] Pur yD yE Ex X Fn Imp LeV LeB FnO It yH
end Go.Rse
namespace Go.Rse
open Go Go.Proofs
attribute [local irreducible] Pur yD yE Ex X Fn Imp LeV LeB FnO It yH
def za (m : Mn) (l : List Sg) (i : Int) : Bool := decide (m.Pro = 2) && zaz l i
def zh (m : Mn) (l : List Sg) : Nat -> List Int
 | 0 => []
 | k + 1 => if za m l (k : Int) = true then zh m l k ++ [(k : Int)] else zh m l k
def zN (m : Mn) (l : List Sg) : List Int := zh m l l.length
def zeZ (m : Mn) (l : List Sg) : List (List AV) := (zN m l).map fun i => [iv i]
theorem zb1 {m : Mn} {l : List Sg} {k : Nat} (h : za m l (k : Int) = true) : zh m l k ++ [(k : Int)] = zh m l (k + 1) := by
 conv => rhs; unfold zh
 rw [if_pos h]
theorem zd3 {m : Mn} {l : List Sg} {k : Nat} (h : za m l (k : Int) = false) : zh m l k = zh m l (k + 1) := by
 conv => rhs; unfold zh
 rw [if_neg (by simp [h])]
theorem zhb (m : Mn) (l : List Sg) : ∀ k, (zh m l k).length <= k
 | 0 => Nat.le_refl _
 | k + 1 => by
  unfold zh;have := zhb m l k;split
  ·simp; omega
  ·omega
theorem zhc {m : Mn} {l : List Sg} (k : Nat) : ∀ d, ∃ r, zh m l (k + d) = zh m l k ++ r
 | 0 => ⟨[], by simp⟩
 | d + 1 => by
  obtain ⟨r, hr⟩ := zhc (m := m) (l := l) k d;show ∃ r, zh m l ((k + d) + 1) = _;by_cases h : za m l ((k + d : Nat) : Int) = true
  ·rw [← zb1 h, hr]; exact ⟨r ++ [((k + d : Nat) : Int)], by simp⟩
  ·rw [← zd3 (by simpa using h)]; exact ⟨r, hr⟩
theorem zln {m : Mn} {l : List Sg} {k : Nat} (hk : k < l.length) (h : za m l (k : Int) = true) : (zeZ m l)[(zh m l k).length]? = some [iv (k : Int)] := by
 obtain ⟨r, hr⟩ := zhc (m := m) (l := l) (k + 1) (l.length - (k + 1));rw [show k + 1 + (l.length - (k + 1)) = l.length by omega, ← zb1 h] at hr;unfold zeZ zN;rw [hr]; simp
theorem zeE {m : Mn} {l : List Sg} {j : Nat} {zs : List AV} (h : (zeZ m l)[j]? = some zs) : ∃ i, (zN m l)[j]? = some i /\ zs = [iv i] := by
 rw [zeZ, List.getElem?_map] at h;cases hk : (zN m l)[j]? with
 | none => simp [hk] at h
 | some k => simp [hk] at h; exact ⟨k, rfl, h.symm⟩
attribute [local irreducible] zaz zh zN
theorem zfn (m : Mn) (l : List Sg) (hl : l.length <= 4000000000) : It Tryz.prog 192 [.ept (fun _ : Unit => [.sl sgE l]) () 0, .ept (fun _ : Unit => mnE m) () 0] (zeZ m l) := by
 have hp0 : (zh m l 0).length = 0 := by unfold zh; rfl
 refine It.intro (ts := fun lY => [(0, .yv lY), (1, .ept (fun _ : Unit => [.sl sgE l]) () 0), (2, .ept (fun _ : Unit => mnE m) () 0)]) (n := 25) (by kernel_rfl) Tryz.func192 rfl Tryz.ntmps192 rfl (fun _ => rfl) (by simp) (fun g w d ds Y lY hY => ?_);apply yb;refine yr ?_;apply X.block;refine zw (ι := Nat) (fun (k : Nat) => [(0, .yv lY), (1, .ept (fun _ : Unit => [.sl sgE l]) () 0), (2, .ept (fun _ : Unit => mnE m) () 0), (6, iv l.length), (7, iv (k : Int))]) (fun (k : Nat) => [(1000000, .yld (zh m l k).length true)]) (fun (k : Nat) => k <= l.length) (fun (k : Nat) => l.length - k) 0 (fun k hk => ?_);apply yb;refine yd ?_;apply ye;refine ym rfl ?_ ?_<;>intro hc1
 ·apply yf;apply ye;apply X.block;apply yb;refine yg ?_;apply ye;have hcs : (decide (m.Pro = 2) = false) \/ (decide (m.Pro = 2) = true /\ zaz l (k : Int) = false) \/ (decide (m.Pro = 2) = true /\ zaz l (k : Int) = true) := by cases decide (m.Pro = 2) <;> cases zaz l (k : Int) <;> simp
  rcases hcs with hp | ⟨hp, hq⟩ | ⟨hp, hq⟩
  ·have hg3 : (decide (m.Pro = 2) == true) = false := by rw [hp]; rfl
   have hn : za m l (k : Int) = false := by unfold za; rw [hp]; rfl
   have hst := zd3 hn;have hst2 := congrArg List.length hst.symm;apply yc;(iterate 4 refine ya ?_);(iterate 3 refine zaR ?_);(iterate 2 refine ya ?_);(iterate 4 refine zaR ?_);refine yd ?_;refine ym rfl ?_ ?_<;>intro hc2
   ·exact absurd hc2 (by decide)
   apply yf;apply yc;refine yg ?_;refine yY (k + 1)
  ·have hg3 : (decide (m.Pro = 2) == true) = true := by rw [hp]; rfl
   have hg8 : (zaz l (k : Int) == true) = false := by rw [hq]; rfl
   have hn : za m l (k : Int) = false := by unfold za; rw [hp, hq]; rfl
   have hst := zd3 hn;have hst2 := congrArg List.length hst.symm;apply yc;(iterate 4 refine ya ?_);iterate 2 refine zE ?_
   (refine znr rfl rfl ?_ (zav rfl rfl rfl (LeL.refl _) (zd2 l hl (k : Int) (by omega) (by omega))) rfl rfl ?_; iterate 1 (· first | exact hg3 | assumption | rfl | (simp_all; done) | omega))
   (iterate 2 refine ya ?_);(iterate 4 refine zaR ?_);refine yd ?_;refine ym rfl ?_ ?_<;>intro hc3
   ·exact absurd hc3 (by decide)
   apply yf;apply yc;refine yg ?_;refine yY (k + 1)
  ·have hg3 : (decide (m.Pro = 2) == true) = true := by rw [hp]; rfl
   have hg8 : (zaz l (k : Int) == true) = true := by rw [hq]; rfl
   have hn : za m l (k : Int) = true := by unfold za; rw [hp, hq]; rfl
   have hst := zb1 hn;have hst2 := congrArg List.length hst;have hq1 := zln (by omega) hn;rw [List.length_append] at hst2;apply yc;(iterate 4 refine ya ?_);iterate 2 refine zE ?_
   (refine znr rfl rfl ?_ (zav rfl rfl rfl (LeL.refl _) (zd2 l hl (k : Int) (by omega) (by omega))) rfl rfl ?_; iterate 1 (· first | exact hg3 | assumption | rfl | (simp_all; done) | omega))
   (iterate 2 refine ya ?_);(iterate 2 refine zE ?_);refine zbp hY rfl rfl rfl (fun _ => ⟨_, _, rfl, rfl, rfl, LeL.refl _, rfl, rfl, hq1, fun b => ?_⟩) (fun h => absurd (h.symm.trans hg8) (by decide));refine zE ?_;refine yd ?_;refine ym rfl ?_ ?_<;>intro hc4
   ·subst hc4;refine X.ret ?_;refine ⟨.inr rfl, _, false, rfl, fun hb => by simp at hb⟩
   subst hc4;have hst3 : (zh m l (k + 1)).length = (zh m l k).length + 1 := hst2.symm;clear hst2;apply yf;apply yc;refine yg ?_;refine yY (k + 1)
 ·have hkl : k = l.length := by omega
  subst hkl;apply X.exit;refine ⟨.inl rfl, _, true, rfl, fun _ => by unfold zeZ zN; rw [List.length_map]⟩
theorem zgX (m : Mn) (l : List Sg) : Fn Tryz.prog 173 [mnA m, sgsA l] (.fn 192 [.ept (fun _ : Unit => [.sl sgE l]) () 0, .ept (fun _ : Unit => mnE m) () 0]) := by
 refine Fn.go Tryz.func173 Tryz.ntmps173 (fun g w d => ?_);apply yb;refine yG ?_;refine zcf ?_;refine ya ?_;apply yk;refine yg ?_;refine X.ret ?_;refine yo ((y3 (k := 2) rfl rfl).trans (y3 (k := 3) rfl rfl)) ?_;refine yn ?_;all_goals (first | rfl | (simp_all; done))
end Go.Rse
namespace Go.Rse
open Go Go.Proofs
attribute [local irreducible] Pur yD yE Ex X Fn Imp LeV LeB FnO It yH
theorem zhd (m : Mn) (l : List Sg) : (zN m l).length <= l.length := by unfold zN; exact zhb m l _
theorem zlo {α : Type} {a : List α} {j : Nat} {x : α} (h : a[j]? = some x) : a.take j ++ [x] = a.take (j + 1) := by
 rw [List.take_add_one, h]; rfl
attribute [local irreducible] zaz zh zN za ckD
theorem zgY (m : Mn) (z : List Sg) (hl : z.length <= 1000) : FnO Tryz.prog 129 [mnA m, sgsA z] [] [] (.tup [.own 39, iv (ckD m z)]) [(39, .row intE (if ckD m z = 0 then zN m z else []) 3 1)] := by
 refine FnO.intro (ts := [(0, mnA m), (1, sgsA z)]) (rv := [.tmp 4, .tmp 5]) (n := 24) (cs := []) (by kernel_rfl) Tryz.func129 rfl Tryz.ntmps129 rfl rfl (by simp) rfl rfl rfl rfl (fun g w d vh => ?_);apply yb;refine yG ?_;refine yg ?_;apply ye;apply yb;iterate 2 refine ya ?_
 refine yq (zcV m z hl) ?_;refine ya ?_;apply yk;refine yg ?_;refine ym rfl ?_ ?_<;>intro hc1
 ·have hE : [] = (if ckD m z = 0 then zN m z else []) := by rw [if_neg hc1]
  apply yb;refine yr ?_;refine X.ret ?_;refine zeS (zg intE 3 1 4 39 rfl rfl) ?_;refine zk6.mk (ts := [(4, .own 39), (5, iv (ckD m z))]) (.inr rfl) (yi) (.many (by decide) (.cons (.tmp rfl (LeV.eq rfl)) (.cons (.tmp rfl (LeV.eq rfl)) .nil)))
 have hpl := zhd m z;apply yf;apply yb;refine yJ ?_;apply Ex.nil;iterate 2 apply ye
 refine zm (zax intE 3 1 7 39 22 rfl rfl) ?_;apply yc;iterate 2 refine ya ?_
 refine yq (zgX m z) ?_;apply Ex.nil;apply X.block;have ht0 : [] = (zN m z).take 0 := by simp
 have htl : (zN m z).take (zeZ m z).length = (if ckD m z = 0 then zN m z else []) := by
  rw [if_pos hc1]; unfold zeZ; rw [List.length_map, List.take_length]
 refine X.range (sl := [7]) (fun j => ([.ptr 7 0 0 0], [(1000001, .hold vh []), (7, .box [.own 39] 22), (39, .row intE ((zN m z).take j) 3 1)])) (fun j => True) 900001 900002 rfl rfl (by decide) (fun j zs hj => by obtain ⟨i, _, rfl⟩ := zeE hj; rfl) (zfn m z (by omega)) trivial rfl rfl (by decide) (Nat.zero_le _) (by simp) (fun j zs hj => by obtain ⟨i, _, rfl⟩ := zeE hj; rfl) (fun _ => rfl) rfl rfl (fun l o us => yi) (trivial) (fun j zs hj hJ l ready busy rb vs g w hb hyB => ?_) (fun hJ => ?_)
 ·obtain ⟨i, hi, rfl⟩ := zeE hj;have hst := zlo hi;have hlt : ((zN m z).take j).length <= 1000 := by simp; omega
  apply yc;refine yd ?_;refine ⟨rfl, rfl, ?_⟩;apply X.block;apply yc;iterate 2 refine ya ?_
  refine yV intE [_] ?_;iterate 2 refine yj ?_
  apply Ex.nil;refine ⟨[.ptr 7 0 0 0], [(1000001, .hold vh []), (7, .box [.own 39] 22), (39, .row intE ((zN m z).take (j + 1)) 3 1)], yi, rfl, trivial⟩
 apply yb;refine yr ?_;refine X.ret ?_;refine zk6.mk (ts := [(4, .own 39), (5, iv (ckD m z))]) (.inr rfl) (yi) (.many (by decide) (.cons (.tmp rfl (LeV.eq rfl)) (.cons (.tmp rfl (LeV.eq rfl)) .nil)))
end Go.Rse
namespace Go.Rse
open Go Go.Proofs
attribute [local irreducible] Pur yD yE Ex X Fn Imp LeV LeB FnO It yH
attribute [local irreducible] zaz zh zN za ckD
def prL (m : Mn) (l : List Sg) : List Int := if ckD m l = 0 then zN m l else []
def twos (n : Nat) : List Int := List.replicate n 2
theorem zks (m : Mn) (l : List Sg) : (prL m l).length <= l.length := by
 unfold prL; split
 ·exact zhd m l
 ·simp
def colN (m : Mn) (l : List Sg) : Int := if ckD m l = 0 then (if 6 < (prL m l).length then 0 else 2 ^ (prL m l).length) else 0
def colE (m : Mn) (l : List Sg) : Int := if ckD m l = 0 then (if 6 < (prL m l).length then 15 else 0) else ckD m l
theorem zjy {m : Mn} {l : List Sg} (h : ¬ckD m l = 0) : 0 = colN m l := by unfold colN; rw [if_neg h]
theorem zjz {m : Mn} {l : List Sg} (h : ¬ckD m l = 0) : ckD m l = colE m l := by unfold colE; rw [if_neg h]
theorem zjA {m : Mn} {l : List Sg} (h : ckD m l = 0) (h6 : 6 < (prL m l).length) : 0 = colN m l := by unfold colN; rw [if_pos h, if_pos h6]
theorem zjB {m : Mn} {l : List Sg} (h : ckD m l = 0) (h6 : 6 < (prL m l).length) : 15 = colE m l := by unfold colE; rw [if_pos h, if_pos h6]
theorem zjC {m : Mn} {l : List Sg} (h : ckD m l = 0) {k : Nat} (hk : k = (prL m l).length) (h6 : k <= 6) : 2 ^ k = colN m l := by unfold colN; rw [if_pos h, if_neg (by omega), hk]
theorem zjD {m : Mn} {l : List Sg} (h : ckD m l = 0) {k : Nat} (hk : k = (prL m l).length) (h6 : k <= 6) : 0 = colE m l := by unfold colE; rw [if_pos h, if_neg (by omega)]
theorem zb2 {k : Nat} (h : k <= 6) : 1 <= (2 : Int) ^ k /\ (2 : Int) ^ k <= 64 := by
 rcases k with _ | _ | _ | _ | _ | _ | _ | k <;> first | omega | (constructor <;> decide)
theorem zqT (k : Nat) : (2 : Int) * 2 ^ k = 2 ^ (k + 1) := by rw [Int.pow_succ]; omega
attribute [local irreducible] prL twos
end Go.Rse
namespace Go.Rse
open Go Go.Proofs
attribute [local irreducible] Pur yD yE Ex X Fn Imp LeV LeB FnO It yH
attribute [local irreducible] zaz zh zN za ckD
theorem zcN (m : Mn) (l : List Sg) (hl : l.length <= 1000) : FnO Tryz.prog 129 [mnA m, sgsA l] [] [] (.tup [.own 39, iv (ckD m l)]) [(39, .row intE (prL m l) 3 1)] := zgY m l hl
theorem zqU {k : Nat} (h : k <= 6) : IntKind.i64.wrap (1 * 2 ^ (k : Int).toNat) = 1 * 2 ^ (k : Int).toNat := by
 rcases k with _ | _ | _ | _ | _ | _ | _ | k <;> first | omega | rfl
theorem zjE (k : Nat) : (1 : Int) * 2 ^ (k : Int).toNat = 2 ^ k := by rw [Int.one_mul]; rfl
attribute [local irreducible] prL twos
theorem zdA (m : Mn) (l : List Sg) (hl : l.length <= 1000) : Fn Tryz.prog 158 [mnA m, sgsA l] (.tup [iv (colN m l), iv (colE m l)]) := by
 refine Fn.go Tryz.func158 Tryz.ntmps158 (fun g w d => ?_);apply yb;refine yG ?_;iterate 2 refine ya ?_
 apply yk;iterate 2 refine ya ?_
 refine z8 [(39, 39)] (zcN m l hl) ?_;refine zv ?_;apply ye;apply yb;refine yg ?_;refine ym rfl ?_ ?_<;>intro hc1
 ·apply yb;refine yr ?_;refine X.ret ?_;refine yo (yi (ts := [(4, iv 0), (5, iv (ckD m l))]) (hs := [])) ?_;refine yy ?_ ?_;all_goals (first | exact congrArg (AV.int .i64) (zjy hc1) | exact congrArg (AV.int .i64) (zjz hc1) | exact congrArg (AV.int .i64) (zjA hc1 (by omega)) | exact congrArg (AV.int .i64) (zjB hc1 (by omega)) | exact congrArg (AV.int .i64) ((zjE _).trans (zjC hc1 rfl (by omega))) | exact congrArg (AV.int .i64) (zjD hc1 rfl (by omega)))
 apply yf;apply ye;apply yb;refine yr ?_;refine ym rfl ?_ ?_<;>intro hc2
 ·apply yb;refine yg ?_;refine X.ret ?_;refine yo (yi (ts := [(4, iv 0), (5, iv 15)]) (hs := [])) ?_;refine yy ?_ ?_;all_goals (first | exact congrArg (AV.int .i64) (zjy hc1) | exact congrArg (AV.int .i64) (zjz hc1) | exact congrArg (AV.int .i64) (zjA hc1 (by omega)) | exact congrArg (AV.int .i64) (zjB hc1 (by omega)) | exact congrArg (AV.int .i64) ((zjE _).trans (zjC hc1 rfl (by omega))) | exact congrArg (AV.int .i64) (zjD hc1 rfl (by omega)))
 apply yf;apply yb;iterate 2 refine ya ?_
 refine ya (hs := ztz rfl rfl (by omega) (by omega) (zqU (by omega))) ?_;refine yg ?_;refine X.ret ?_;refine yo (yi (ts := [(4, iv (1 * 2 ^ ((prL m l).length : Int).toNat)), (5, iv 0)]) (hs := [])) ?_;refine yy ?_ ?_;all_goals (first | exact congrArg (AV.int .i64) (zjy hc1) | exact congrArg (AV.int .i64) (zjz hc1) | exact congrArg (AV.int .i64) (zjA hc1 (by omega)) | exact congrArg (AV.int .i64) (zjB hc1 (by omega)) | exact congrArg (AV.int .i64) ((zjE _).trans (zjC hc1 rfl (by omega))) | exact congrArg (AV.int .i64) (zjD hc1 rfl (by omega)))
end Go.Rse
