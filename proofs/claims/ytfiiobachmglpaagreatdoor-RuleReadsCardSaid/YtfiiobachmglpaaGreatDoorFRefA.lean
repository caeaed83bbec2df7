/-
  Plain: the reference's meanings of a dot are the program's.
  Walks: the reference for dots.
-/
import Derived.Test.YtfiiobachmglpaaGreatDoorFDotB
import Derived.Test.YtfiiobachmglpaaGreatDoorFJRef1
import Derived.Test.YtfiiobachmglpaaGreatDoorFLogB
set_option linter.unusedSimpArgs false
set_option linter.unusedVariables false
namespace Go.Rse
open Go Go.Proofs
theorem zj8 (a : Int) : coll posI [a] = if 0 < a then [a] else [] := by
 unfold coll dl posI srtI;by_cases h : 0 < a
 ·simp only [h, if_true, List.filter_cons, decide_true, Bool.not_true, Bool.not_false, List.filter_nil, List.mergeSort_singleton];simp [Lib.compact, Lib.compactUpTo, Lib.keeps, List.range_succ]
 ·simp only [h, if_false, List.filter_cons, decide_false, Bool.not_true, Bool.not_false, List.filter_nil, List.mergeSort_nil];simp [Lib.compact, Lib.compactUpTo]
theorem srt2 {a v : Int} (h : a < v) : srtI [v, a] = [a, v] := by
 unfold srtI;have h1 : ¬ v <= a := by omega
 simp [List.mergeSort, List.MergeSort.Internal.splitInTwo, List.merge, h1]
theorem znS {v a : Int} (hv : 0 < v) (ha : a < v) : coll posI [v, a] = if 0 < a then [a, v] else [v] := by
 unfold coll;by_cases h : 0 < a
 ·have e : dl (fun v => !posI v) [v, a] = [v, a] := by simp [dl, posI, h, hv]
  rw [e, srt2 ha, if_pos h];have h2 : ¬ v = a := by omega
  have h3 : ¬ a = v := by omega
  simp [Lib.compact, Lib.compactUpTo, Lib.keeps, List.range_succ, h2, h3]
 ·have e : dl (fun v => !posI v) [v, a] = [v] := by simp [dl, posI, h, hv]
  rw [e, if_neg h];simp [srtI, Lib.compact, Lib.compactUpTo, Lib.keeps, List.range_succ]
theorem zrh (m : Mn) {v : Int} (h : 1 <= v) : 0 <= m.ab v /\ m.ab v < v := by
 unfold Mn.ab;cases e : (perfL m).find? fun k => decide (k < v) with
 | none => simp; omega
 | some k =>
  have h1 := List.find?_some e;have h2 := List.mem_of_find?_eq_some e;have h3 := (List.mem_filter.1 h2).1;simp at h1 h3 ⊢;omega
theorem p23 {m : Mn} {v : Int} (hM : ckM m = 0) : m.p v = 2 \/ m.p v = 3 := by
 have hO : m.Ok := by
  unfold ckM at hM; split at hM
  ·assumption
  ·omega
 obtain ⟨a, b, c, d⟩ := hO;unfold two3 at *
 unfold Mn.p;split
 ·assumption
 ·split
  ·assumption
  ·split
   ·assumption
   ·split
    ·assumption
    ·exact .inl rfl
theorem zix {m : Mn} {v : Int} (hM : ckM m = 0) (h1 : 1 <= v) (h2 : v <= 8) : ckMV m v = 0 := by
 have hO : m.Ok := by
  unfold ckM at hM; split at hM
  ·assumption
  ·omega
 unfold ckMV; rw [if_pos hO, if_pos ⟨h1, h2⟩]
theorem zkQ {m : Mn} {v : Int} (h1 : 1 <= v) : 0 <= m.aV v /\ m.aV v < v := by
 have := zrh m h1;unfold Mn.aV;split
 ·exact this
 ·omega
def mngR (m : Mn) (s : Sg) : List Int :=
 if s.Kind = 2 then [m.aV s.Value] else if s.Color = true then [0] else if m.p s.Value = 2 /\ m.aV s.Value = 0 then [0] else if m.p s.Value = 2 then [0, m.aV s.Value] else if m.aV s.Value = 0 then [s.Value] else [m.aV s.Value, s.Value]
theorem znT {m : Mn} {s : Sg} (hM : ckM m = 0) (h1 : 1 <= s.Value) (h2 : s.Value <= 8) (hz : ¬ (s.Kind = 2 /\ m.aV s.Value = 0)) : mngs m s = mngR m s := by
 have ha := zkQ (m := m) h1;have hp := p23 (m := m) (v := s.Value) hM;have hpV : m.pV s.Value = m.p s.Value := by unfold Mn.pV; rw [if_pos (zix hM h1 h2)]
 unfold mngs mngR;rw [hpV, zj8];by_cases hK : s.Kind = 2
 ·have : 0 < m.aV s.Value := by
   have : ¬ m.aV s.Value = 0 := fun h => hz ⟨hK, h⟩
   omega
  rw [if_pos hK, if_pos hK, if_pos this]
 ·rw [if_neg hK, if_neg hK];by_cases hC : s.Color = true
  ·rw [if_pos hC, if_pos hC]
  ·rw [if_neg hC, if_neg hC];rcases hp with hp | hp
   ·by_cases h0 : m.aV s.Value = 0
    ·simp [hp, h0]
    ·have h4 : 0 < m.aV s.Value := by omega
     simp [hp, h0, h4]
   ·rw [znS (by omega) ha.2];by_cases h0 : m.aV s.Value = 0
    ·simp [hp, h0]
    ·have h4 : 0 < m.aV s.Value := by omega
     simp [hp, h0, h4]
theorem zga {m : Mn} {s : Sg} (hM : ckM m = 0) (h1 : 1 <= s.Value) (h2 : s.Value <= 8) : (mngs m s).length = 0 ↔ (s.Kind = 2 /\ m.aV s.Value = 0) := by
 constructor
 ·intro h;refine Classical.byContradiction fun hz => ?_
  rw [znT hM h1 h2 hz] at h;unfold mngR at h;split at h
  ·simp at h
  ·split at h
   ·simp at h
   ·split at h
    ·simp at h
    ·split at h
     ·simp at h
     ·split at h <;> simp at h
 ·rintro ⟨hK, h0⟩
  unfold mngs;rw [if_pos hK, zj8, if_neg (by omega)]; rfl
def sgR (m : Mn) (l : List Sg) (k : Nat) (s : Sg) : Int :=
 if s.Kind = 1 \/ s.Kind = 2 then (if 1 <= s.Value /\ s.Value <= 8 then 0 else 2)
 else if s.Kind = 3 then (match k with | 0 => 13 | j + 1 => match l[j]? with | some p => if p.Kind = 3 \/ (p.Kind = 2 /\ m.aV p.Value = 0) then 13 else 0 | none => 13)
 else 8
def zbR (m : Mn) (l : List Sg) : Nat -> List Sg -> Int
 | _, [] => 0
 | k, s :: r => if sgR m l k s = 0 then zbR m l (k + 1) r else sgR m l k s
def ckR (m : Mn) (l : List Sg) : Int := if ckM m = 0 then zbR m l 0 l else ckM m
theorem zdh {m : Mn} {l : List Sg} {k : Nat} {s : Sg} (h : l[k]? = some s) (h0 : sgR m l k s = 0) : zbR m l k (l.drop k) = zbR m l (k + 1) (l.drop (k + 1)) := by
 have hk : k < l.length := (List.getElem?_eq_some_iff.1 h).1;rw [List.drop_eq_getElem_cons hk];have : l[k] = s := (List.getElem?_eq_some_iff.1 h).2;rw [this]; simp only [zbR, h0, if_true]
theorem za6 {m : Mn} {l : List Sg} {k : Nat} {s : Sg} (h : l[k]? = some s) (h0 : sgR m l k s ≠ 0) : zbR m l k (l.drop k) = sgR m l k s := by
 have hk : k < l.length := (List.getElem?_eq_some_iff.1 h).1;rw [List.drop_eq_getElem_cons hk];have : l[k] = s := (List.getElem?_eq_some_iff.1 h).2;rw [this]; simp only [zbR, if_neg h0]
theorem zlX {m : Mn} {l : List Sg} {k : Nat} {s : Sg} (h0 : sgF m l k s = 0) (hK : s.Kind ≠ 3) : (s.Kind = 1 \/ s.Kind = 2) /\ 1 <= s.Value /\ s.Value <= 8 := by
 unfold sgF at h0;by_cases h : s.Kind = 1 \/ s.Kind = 2
 ·rw [if_pos h] at h0;refine ⟨h, ?_⟩;by_cases hv : 1 <= s.Value /\ s.Value <= 8
  ·exact hv
  ·rw [if_neg hv] at h0; simp at h0
 ·rw [if_neg h, if_neg hK] at h0; simp at h0
theorem zsO {m : Mn} {l : List Sg} {k : Nat} {s : Sg} (hM : ckM m = 0) (hs : l[k]? = some s) (hb : ∀ i s, i < k -> l[i]? = some s -> sgF m l i s = 0) : sgF m l k s = sgR m l k s := by
 unfold sgF sgR;by_cases h : s.Kind = 1 \/ s.Kind = 2
 ·rw [if_pos h, if_pos h]
 ·rw [if_neg h, if_neg h];by_cases h3 : s.Kind = 3
  ·rw [if_pos h3, if_pos h3];cases k with
   | zero => rfl
   | succ j =>
    cases hp : l[j]? with
    | none => simp only [hp]
    | some p =>
     simp only [hp];by_cases hk3 : p.Kind = 3
     ·rw [if_pos (.inl hk3), if_pos (.inl hk3)]
     ·obtain ⟨_, h1, h2⟩ := zlX (hb j p (by omega) hp) hk3;by_cases hz : (mngs m p).length = 0
      ·rw [if_pos (.inr hz), if_pos (.inr ((zga hM h1 h2).1 hz))]
      ·rw [if_neg (fun h => h.elim hk3 hz), if_neg (fun h => h.elim hk3 (fun h => hz ((zga hM h1 h2).2 h)))]
  ·rw [if_neg h3, if_neg h3]
theorem zj9 {m : Mn} {l : List Sg} (hM : ckM m = 0) : ∀ (n k : Nat), l.length - k = n -> k <= l.length -> (∀ i s, i < k -> l[i]? = some s -> sgF m l i s = 0) -> z7 m l k (l.drop k) = zbR m l k (l.drop k)
 | 0, k, hn, hk, hb => by
  rw [List.drop_of_length_le (by omega)]; rfl
 | n + 1, k, hn, hk, hb => by
  have hs : l[k]? = some l[k] := lgg (by omega);have he := zsO hM hs hb;by_cases h0 : sgF m l k l[k] = 0
  ·rw [zcE hs h0, zdh hs (by rw [← he]; exact h0)];refine zj9 hM n (k + 1) (by omega) (by omega) fun i s hi hsi => ?_
   rcases Nat.lt_succ_iff_lt_or_eq.1 hi with h | h
   ·exact hb i s h hsi
   ·subst h; rw [hs] at hsi; injection hsi with hsi; subst hsi; exact h0
  ·rw [zbn hs h0, za6 hs (by rw [← he]; exact h0), he]
theorem zka (m : Mn) (l : List Sg) : ckD m l = ckR m l := by
 unfold ckD ckR;by_cases hM : ckM m = 0
 ·rw [if_pos hM, if_pos hM];have := zj9 (l := l) hM l.length 0 rfl (Nat.zero_le _) (fun i s h => absurd h (Nat.not_lt_zero i));simpa using this
 ·rw [if_neg hM, if_neg hM]
theorem zci {m : Mn} {l : List Sg} (h : ckD m l = 0) : ckM m = 0 /\ z7 m l 0 l = 0 := by
 unfold ckD at h;by_cases hM : ckM m = 0
 ·rw [if_pos hM] at h; exact ⟨hM, h⟩
 ·rw [if_neg hM] at h; exact absurd h hM
theorem zji {m : Mn} {l : List Sg} (h : ckD m l = 0) {j : Nat} {s p : Sg} (hs : l[j + 1]? = some s) (h3 : s.Kind = 3) (hp : l[j]? = some p) :
 p.Kind ≠ 3 /\ (p.Kind = 1 \/ p.Kind = 2) /\ 1 <= p.Value /\ p.Value <= 8 /\ ¬ (p.Kind = 2 /\ m.aV p.Value = 0) /\ mngs m p = mngR m p := by
 obtain ⟨hM, hF⟩ := zci h;have hall := (zab hF l.length (Nat.le_refl _)).2;have h0 := hall (j + 1) s (List.getElem?_eq_some_iff.1 hs).1 hs;unfold sgF at h0;rw [if_neg (by omega), if_pos h3] at h0;simp only [hp] at h0;have hk : ¬ (p.Kind = 3 \/ (mngs m p).length = 0) := fun h => by rw [if_pos h] at h0; simp at h0
 have hk3 : p.Kind ≠ 3 := fun h => hk (.inl h)
 obtain ⟨h5, h1, h2⟩ := zlX (hall j p (List.getElem?_eq_some_iff.1 hp).1 hp) hk3;have hz : ¬ (p.Kind = 2 /\ m.aV p.Value = 0) := fun h => hk (.inr ((zga hM h1 h2).2 h))
 exact ⟨hk3, h5, h1, h2, hz, znT hM h1 h2 hz⟩
theorem zhB {l : List Sg} : ∀ (k : Nat) (x : Int), x ∈ yU l k -> ∃ (j : Nat) (s : Sg), x = (j : Int) /\ l[j]? = some s /\ s.Kind = 3
 | 0, x, hx => by simp [yU] at hx
 | k + 1, x, hx => by
  simp only [yU, List.mem_append] at hx;rcases hx with hx | hx
  ·exact zhB k x hx
  ·cases hs : l[k]? with
   | none => simp [hs] at hx
   | some s =>
    simp only [hs] at hx;split at hx
    ·rename_i hK; simp at hx; exact ⟨k, s, hx, hs, hK⟩
    ·simp at hx
def zfK (m : Mn) (l : List Sg) (i : Int) : List Int := match zdB l i with | some p => mngR m p | none => []
def mnsR (m : Mn) (l : List Sg) : List (List Int) := (yU l l.length).map (zfK m l)
theorem zjj {m : Mn} {l : List Sg} (h : ckD m l = 0) {x : Int} (hx : x ∈ yU l l.length) : ∃ (j : Nat) (s p : Sg), x = ((j + 1 : Nat) : Int) /\ l[j + 1]? = some s /\ s.Kind = 3 /\ l[j]? = some p /\ zdB l x = some p := by
 obtain ⟨j, s, p, h1, h2, h3⟩ := zeg (zci h).2 l.length (Nat.le_refl _) x hx;obtain ⟨j', s', h4, h5, h6⟩ := zhB l.length x hx;have : j' = j + 1 := by omega
 subst this;rw [h2] at h5; injection h5 with h5; subst h5;refine ⟨j, s, p, h1, h2, h6, h3, ?_⟩;unfold zdB;rw [show (x - 1).toNat = j by omega]; exact h3
theorem zri {m : Mn} {l : List Sg} (h : ckD m l = 0) : mnsD m l = mnsR m l := by
 refine List.map_congr_left fun x hx => ?_
 obtain ⟨j, s, p, h1, h2, h3, h4, h5⟩ := zjj h hx;unfold mnAt zfK;rw [h5];exact (zji h h2 h3 h4).2.2.2.2.2
def ownV : List Int -> Int -> Int
 | [], _ => 0
 | x :: r, v => if x = 0 \/ x = v then x else ownV r v
def zaP (m : Mn) (l : List Sg) (i : Int) (p : Sg) : Int :=
 if (mngR m p).length = 1 then (mngR m p).headD 0 else if zdC l i > p.Value then ownV (mngR m p) p.Value else m.aV p.Value
def zbS (m : Mn) (l : List Sg) (i : Int) : Int := match zdB l i with | some p => zaP m l i p | none => 0
def zkb (m : Mn) (l : List Sg) : List Int := (yU l l.length).map (zbS m l)
theorem zkc {m : Mn} {l : List Sg} {i : Int} {p : Sg} (hM : ckM m = 0) (h1 : 1 <= p.Value) (h2 : p.Value <= 8) (he : mngs m p = mngR m p) : zaH m l i p = zaP m l i p := by
 have ha := zkQ (m := m) h1;have hp := p23 (m := m) (v := p.Value) hM;have hpV : m.pV p.Value = m.p p.Value := by unfold Mn.pV; rw [if_pos (zix hM h1 h2)]
 unfold zaH zaP;rw [he, hpV];unfold mngR;split
 ·simp
 ·split
  ·simp
  ·split
   ·simp
   ·split
    ·rename_i h3 h4 h5 h6;have : ¬ m.aV p.Value = 0 := fun h => h5 ⟨h6, h⟩
     by_cases hn : zdC l i <= p.Value
     ·simp [hn]; omega
     ·simp [hn, ownV, h6]
    ·split
     ·simp
     ·rename_i h3 h4 h5 h6 h7;by_cases hn : zdC l i <= p.Value
      ·simp [hn]; omega
      ·have h8 : m.p p.Value = 3 := by omega
       have h9 : ¬ m.aV p.Value = p.Value := by omega
       simp [hn, ownV, h8, h7, h9]
theorem zlY {m : Mn} {l : List Sg} (h : ckD m l = 0) : zm m l = zkb m l := by
 refine List.map_congr_left fun x hx => ?_
 obtain ⟨j, s, p, h1, h2, h3, h4, h5⟩ := zjj h hx;obtain ⟨_, _, q1, q2, _, q3⟩ := zji h h2 h3 h4;unfold zcw zbS;rw [h5];exact zkc (zci h).1 q1 q2 q3
end Go.Rse
namespace Go.Rse
open Go Go.Proofs
attribute [local irreducible] Pur yK yM Ex X Fn Imp LeV LeB FnO It yW
theorem zaA (m : Mn) (v : Int) : Fn Tryz.prog 142 [mnA m, iv v] (.tup [iv (m.aV v), iv (ckMV m v)]) := zev m v
def zdm (l : List Sg) (k : Nat) : Int := match k with
 | 0 => -1
 | j + 1 => match l[j]? with | some p => if p.Kind = 3 then -1 else (j : Int) | none => -1
theorem ziy {L : List Int} {k : Nat} {x v : Int} (h : L[k]? = some x) : ownV (L.drop k) v = if x = 0 \/ x = v then x else ownV (L.drop (k + 1)) v := by
 have hk : k < L.length := (List.getElem?_eq_some_iff.1 h).1;rw [List.drop_eq_getElem_cons hk];have : L[k] = x := (List.getElem?_eq_some_iff.1 h).2;rw [this]; rfl
theorem znU (m : Mn) (s : Sg) : 1 <= (mngR m s).length /\ (mngR m s).length <= 2 := by
 unfold mngR
 repeat' split
 all_goals simp
theorem ziz {l : List Sg} {k : Nat} {s : Sg} {α : Type} (f : Int -> α) (h : l[k]? = some s) (h3 : s.Kind = 3) : (yU l k).map f ++ [f k] = (yU l (k + 1)).map f := by
 simp [yU, h, h3]
theorem zkd {l : List Sg} {k : Nat} {s : Sg} {α : Type} (f : Int -> α) (h : l[k]? = some s) (h3 : ¬ s.Kind = 3) : (yU l k).map f = (yU l (k + 1)).map f := by
 simp [yU, h, h3]
theorem zp3 {m : Mn} {l : List Sg} (h : ckR m l = 0) {k : Nat} {s : Sg} (hs : l[k]? = some s) (h3 : s.Kind = 3) : ∃ p : Sg, 0 < k /\ l[((k : Int) - 1).toNat]? = some p /\ zdB l k = some p /\ p.Value <= 8 := by
 rw [← zka] at h;cases k with
 | zero =>
  have := (zab (zci h).2 1 (List.getElem?_eq_some_iff.1 hs).1).2 0 s (by omega) hs;unfold sgF at this;rw [if_neg (by omega), if_pos h3] at this;simp at this
 | succ j =>
  have hlt := (List.getElem?_eq_some_iff.1 hs).1;obtain ⟨p, hj⟩ : ∃ p, l[j]? = some p := ⟨_, lgg (by omega)⟩;have e : (((j + 1 : Nat) : Int) - 1).toNat = j := by omega
  exact ⟨p, by omega, by rw [e]; exact hj, by unfold zdB; rw [e]; exact hj, (zji h hs h3 hj).2.2.2.1⟩
theorem zoY {m : Mn} {l : List Sg} {k : Nat} {s : Sg} (hs : l[k]? = some s) (h3 : s.Kind = 3) :
 (zdm l k < 0 /\ sgR m l k s = 13) \/ (∃ p : Sg, 0 <= zdm l k /\ l[(zdm l k).toNat]? = some p /\ sgR m l k s = if p.Kind = 2 /\ m.aV p.Value = 0 then 13 else 0) := by
 cases k with
 | zero => exact .inl ⟨by simp [zdm], by unfold sgR; rw [if_neg (by omega), if_pos h3]⟩
 | succ j =>
  have hlt := (List.getElem?_eq_some_iff.1 hs).1;obtain ⟨p, hp⟩ : ∃ p, l[j]? = some p := ⟨_, lgg (by omega)⟩;by_cases hk : p.Kind = 3
  ·refine .inl ⟨by simp [zdm, hp, hk], ?_⟩;unfold sgR; rw [if_neg (by omega), if_pos h3]; simp only [hp]; rw [if_pos (.inl hk)]
  ·refine .inr ⟨p, by simp [zdm, hp, hk], by simp [zdm, hp, hk], ?_⟩;unfold sgR; rw [if_neg (by omega), if_pos h3]; simp only [hp]; simp [hk]
theorem zke {l : List Sg} {k : Nat} (hk : k < l.length) : zdm l k = if 0 < (k : Int) /\ ¬ (l.getD ((k : Int) - 1).toNat default).Kind = 3 then (k : Int) - 1 else -1 := by
 cases k with
 | zero => rfl
 | succ j =>
  have e : (((j + 1 : Nat) : Int) - 1).toNat = j := by omega
  have hp : l[j]? = some (l.getD j default) := by rw [List.getD_eq_getElem?_getD, lgg (by omega)]; rfl
  rw [e]; unfold zdm; simp only [hp];generalize l.getD j default = p;by_cases h : p.Kind = 3
  ·rw [if_pos h, if_neg (by omega)]
  ·rw [if_neg h, if_pos ⟨by omega, h⟩]; omega
theorem znV {l : List Sg} {k : Nat} {v : Int} (hk : k < l.length) (hv : v <= 8) : ((k : Int) + 1 = (l.length : Int) \/ v < (l.getD ((k : Int) + 1).toNat default).Value) ↔ zdC l k > v := by
 unfold zdC;rcases Nat.lt_or_ge (k + 1) l.length with h | h
 ·have hp : l[((k : Int) + 1).toNat]? = some (l.getD ((k : Int) + 1).toNat default) := by rw [List.getD_eq_getElem?_getD, lgg (by omega)]; rfl
  simp only [hp];generalize l.getD ((k : Int) + 1).toNat default = p;constructor
  ·intro h; omega
  ·intro h; exact .inr (by omega)
 ·rw [List.getElem?_eq_none (by omega)];constructor
  ·intro _; show (9 : Int) > v; omega
  ·intro _; exact .inl (by omega)
theorem ze7 (l : List Sg) (k : Nat) (hk : k < l.length) (hl : l.length <= 4000000000) : Fn Tryz.prog 141 [sgsA l, iv (k : Int)] (iv (zdm l k)) := by
 refine Fn.go Tryz.func141 Tryz.ntmps141 (fun g w d => ?_);apply yb;refine ye ?_;apply yd;apply yb;iterate 2 refine ya ?_
 refine ExF.at 2 ?_;refine yC ?_;iterate 7 refine ExF.gi ?_
 refine yA ?_;refine ye ?_;refine yk rfl ?_ ?_<;>intro hc1
 ·have HL := hc1;apply yb;refine yp ?_;refine X.ret ?_;refine ym ?_;all_goals (congr 1; rw [zke hk, if_pos HL])
 apply yf;apply yb;refine ye ?_;refine X.ret ?_;refine ym ?_;all_goals (congr 1; rw [zke hk, if_neg (by omega)])
theorem zfL (l : List Int) (v : Int) (hl : l.length <= 4000000000) : Fn Tryz.prog 219 [yg l, iv v] (iv (ownV l v)) := by
 refine Fn.go Tryz.func219 Tryz.ntmps219 (fun g w d => ?_);apply yb;refine ye ?_;apply yd;apply yb;refine ye ?_;apply X.block
 refine y9 (ι := Nat) (fun (k : Nat) => [(0, yg l), (1, iv v), (5, iv (k : Int))]) (fun (k : Nat) => []) (fun (k : Nat) => k <= l.length /\ ownV l v = ownV (l.drop k) v) (fun (k : Nat) => l.length - k) 0 (fun k hk => ?_) (hJ := by
  exact ⟨by omega, rfl⟩)
 obtain ⟨hk1, hk2⟩ := hk;apply yd;apply yb;refine yX ?_;refine yk rfl ?_ ?_<;>intro hc1
 ·obtain ⟨x, hx⟩ : ∃ x, l[k]? = some x := ⟨_, lgg (by omega)⟩;have hx2 : l[(k : Int).toNat]? = some x := by simpa using hx
  apply yf;apply yd;apply X.block;apply yb;iterate 5 refine ya ?_
  refine ExF.at 5 ?_;refine yC ?_;iterate 6 refine ExF.gi ?_
  refine yA ?_;refine ye ?_;refine yk rfl ?_ ?_<;>intro hc2
  ·apply yb;refine y4 ?_;refine X.ret ?_;refine ym ?_;all_goals (congr 1; rw [hk2, ziy hx, if_pos (by simpa using hc2)])
  apply yf;apply yc;refine yp ?_
  refine yL (k + 1) (hJ := by
   exact ⟨by omega, by rw [hk2, ziy hx, if_neg (by simpa using hc2)]⟩)
 ·apply X.exit;apply yb;refine ye ?_;refine X.ret ?_;refine ym ?_;all_goals (congr 1; rw [hk2, List.drop_of_length_le (by omega)]; rfl)
set_option maxHeartbeats 2000000 in
theorem zaL (m : Mn) (l : List Sg) (hl : l.length <= 1000) : Fn Tryz.prog 79 [mnA m, sgsA l] (iv (ckR m l)) := by
 refine Fn.go Tryz.func79 Tryz.ntmps79 (fun g w d => ?_);apply yb;refine yH ?_;refine ya ?_;apply yn;refine ya ?_;refine yr (zY m) ?_;refine ye ?_;apply yd;apply yb;refine yh ?_;refine yk rfl ?_ ?_<;>intro hc1
 ·apply yb;refine yh ?_;refine X.ret ?_;refine ym ?_;all_goals (first | rfl | (unfold ckR; rw [if_neg hc1]))
 apply yf;apply yd;apply yb;refine ye ?_;apply X.block
 refine y9 (ι := Nat) (fun (k : Nat) => [(1, sgsA l), (2, .ptr 2 0 0 0), (6, iv (k : Int))]) (fun (k : Nat) => [(2, .box (mnE m) 23)]) (fun (k : Nat) => k <= l.length /\ ckR m l = zbR m l k (l.drop k)) (fun (k : Nat) => l.length - k) 0 (fun k hk => ?_) (hJ := by
  exact ⟨by omega, by unfold ckR; rw [if_pos hc1]; rfl⟩)
 obtain ⟨hk1, hk2⟩ := hk;apply yd;apply yb;refine yX ?_;refine yk rfl ?_ ?_<;>intro hc2
 ·obtain ⟨s, hs⟩ : ∃ s, l[k]? = some s := ⟨_, lgg (by omega)⟩;have hs2 : l[(k : Int).toNat]? = some s := by simpa using hs
  apply yf;apply yd;apply X.block;apply yb;refine y4 ?_;apply X.block;apply yd;apply yb;refine yh ?_;refine yk rfl ?_ ?_<;>intro hc3
  ·apply yf;refine yk rfl ?_ ?_<;>intro hc4
   ·apply yb;(iterate 6 refine ya ?_);refine ExF.at 6 ?_;refine yC ?_;(iterate 6 refine ExF.gi ?_);refine yA ?_;refine ye ?_;refine yk rfl ?_ ?_<;>intro hc5
    ·have hF : sgR m l k s = 2 := by unfold sgR; rw [if_pos (.inl hc3), if_neg (by omega)]
     apply yb;refine ye ?_;refine X.ret ?_;refine ym ?_;all_goals (rw [hk2, za6 hs (by rw [hF]; decide), hF])
    have h0 : sgR m l k s = 0 := by unfold sgR; rw [if_pos (.inl hc3), if_pos (by omega)]
    apply yf;apply yc;refine yp ?_
    refine yL (k + 1) (hJ := by
     exact ⟨by omega, by rw [hk2, zdh hs h0]⟩)
   ·exact absurd hc3 hc4
  ·apply yc;refine yh ?_;refine yk rfl ?_ ?_<;>intro hc6
   ·apply yb;(iterate 6 refine ya ?_);refine ExF.at 6 ?_;refine yC ?_;(iterate 6 refine ExF.gi ?_);refine yA ?_;refine ye ?_;refine yk rfl ?_ ?_<;>intro hc7
    ·have hF : sgR m l k s = 2 := by unfold sgR; rw [if_pos (.inr hc6), if_neg (by omega)]
     apply yb;refine ye ?_;refine X.ret ?_;refine ym ?_;all_goals (rw [hk2, za6 hs (by rw [hF]; decide), hF])
    have h0 : sgR m l k s = 0 := by unfold sgR; rw [if_pos (.inr hc6), if_pos (by omega)]
    apply yf;apply yc;refine yp ?_
    refine yL (k + 1) (hJ := by
     exact ⟨by omega, by rw [hk2, zdh hs h0]⟩)
   ·apply yb;refine yh ?_;refine yk rfl ?_ ?_<;>intro hc8
    ·have hcs := zoY (m := m) hs hc8;apply yb;(iterate 2 refine ya ?_);refine yr (ze7 l k (by omega) (by omega)) ?_;refine ye ?_;apply yd;apply yb;refine yh ?_;refine yk rfl ?_ ?_<;>intro hc9
     ·have hF : sgR m l k s = 13 := by
       rcases hcs with h | ⟨p, h, _⟩
       ·exact h.2
       ·omega
      apply yb;refine ye ?_;refine X.ret ?_;refine ym ?_;all_goals (rw [hk2, za6 hs (by rw [hF]; decide), hF])
     obtain ⟨p, hl0, hp, hsg⟩ : ∃ p : Sg, 0 <= zdm l k /\ l[(zdm l k).toNat]? = some p /\ sgR m l k s = if p.Kind = 2 /\ m.aV p.Value = 0 then 13 else 0 := by
      rcases hcs with h | h
      ·omega
      ·exact h
     apply yf;apply yd;refine zi [8,9,50,51,52,53,54,55,56,57,58,59] [0,0,0,6,14,30,63,127,255,255,511,2047] mo ?_;(iterate 6 refine yj ?_);refine zj (zaA m _) ?_;(iterate 5 refine yj ?_);refine yR ?_;apply yn;(iterate 6 refine ya ?_);refine ExF.at 6 ?_;refine yC ?_;(iterate 2 refine ExF.gi ?_);refine yA ?_;refine ye ?_;refine yk rfl ?_ ?_<;>intro hc10
     ·have hF : sgR m l k s = 13 := by rw [hsg, if_pos hc10]
      apply yb;refine ye ?_;refine X.ret ?_;refine ym ?_;all_goals (rw [hk2, za6 hs (by rw [hF]; decide), hF])
     have h0 : sgR m l k s = 0 := by rw [hsg, if_neg (by first | exact hc10 | (intro h; simp_all) | omega)]
     apply yf;apply yc;refine yp ?_
     refine yL (k + 1) (hJ := by
      exact ⟨by omega, by rw [hk2, zdh hs h0]⟩)
    ·have hF : sgR m l k s = 8 := by unfold sgR; rw [if_neg (by omega), if_neg (by omega)]
     apply yb;refine ye ?_;refine X.ret ?_;refine ym ?_;all_goals (rw [hk2, za6 hs (by rw [hF]; decide), hF])
 ·apply X.exit;apply yb;refine ye ?_;refine X.ret ?_;refine ym ?_;all_goals (rw [hk2, List.drop_of_length_le (by omega)]; rfl)
theorem zbk (m : Mn) (s : Sg) : Fn Tryz.prog 218 [mnA m, sgA s] (yg (mngR m s)) := by
 refine Fn.go Tryz.func218 Tryz.ntmps218 (fun g w d => ?_);apply yb;iterate 2 refine yH ?_
 refine ya ?_;apply yn;iterate 3 refine ya ?_
 refine yr (zaA m s.Value) ?_;refine y4 ?_;apply yd;apply X.block;apply yb;refine yX ?_;refine yk rfl ?_ ?_<;>intro hc1
 ·apply yb;refine ya ?_;refine yO intE [_] ?_;refine ye ?_;refine X.ret ?_;refine yu (Imp.freeze (k := 19) rfl) ?_;refine ym ?_;all_goals (first | (simp [mngR, *]; rfl) | (have h0 : ¬ m.aV s.Value = 0 := (by omega); simp [mngR, *]; rfl))
 apply yb;refine yp ?_;refine yk rfl ?_ ?_<;>intro hc2
 ·apply yb;refine yO intE [_] ?_;refine ye ?_;refine X.ret ?_;refine yu (Imp.freeze (k := 23) rfl) ?_;refine ym ?_;all_goals (first | (simp [mngR, *]; rfl) | (have h0 : ¬ m.aV s.Value = 0 := (by omega); simp [mngR, *]; rfl))
 apply yb;iterate 3 refine ya ?_
 refine yr (zz m s.Value) ?_;refine ya ?_;refine ExF.at 5 ?_;refine yC ?_;iterate 2 refine ExF.gi ?_
 refine yA ?_;refine yh ?_;refine yk rfl ?_ ?_<;>intro hc3
 ·apply yb;refine yO intE [_] ?_;refine ye ?_;refine X.ret ?_;refine yu (Imp.freeze (k := 34) rfl) ?_;refine ym ?_;all_goals (first | (simp [mngR, *]; rfl) | (have h0 : ¬ m.aV s.Value = 0 := (by omega); simp [mngR, *]; rfl))
 apply yb;iterate 3 refine ya ?_
 refine yr (zz m s.Value) ?_;refine yh ?_;refine yk rfl ?_ ?_<;>intro hc4
 ·apply yb;refine ya ?_;refine yO intE [_, _] ?_;refine ye ?_;refine X.ret ?_;refine yu (Imp.freeze (k := 42) rfl) ?_;refine ym ?_;all_goals (first | (simp [mngR, *]; rfl) | (have h0 : ¬ m.aV s.Value = 0 := (by omega); simp [mngR, *]; rfl))
 apply yb;refine yp ?_;refine yk rfl ?_ ?_<;>intro hc5
 ·apply yb;iterate 2 refine ya ?_
  refine yO intE [_] ?_;refine ye ?_;refine X.ret ?_;refine yu (Imp.freeze (k := 48) rfl) ?_;refine ym ?_;all_goals (first | (simp [mngR, *]; rfl) | (have h0 : ¬ m.aV s.Value = 0 := (by omega); simp [mngR, *]; rfl))
 apply yf;apply yb;iterate 3 refine ya ?_
 refine yO intE [_, _] ?_;refine ye ?_;refine X.ret ?_;refine yu (Imp.freeze (k := 52) rfl) ?_;refine ym ?_;all_goals (first | (simp [mngR, *]; rfl) | (have h0 : ¬ m.aV s.Value = 0 := (by omega); simp [mngR, *]; rfl))
theorem zdi (m : Mn) (l : List Sg) (hl : l.length <= 1000) : Fn Tryz.prog 221 [mnA m, sgsA l] (.tup [zb9 (if ckR m l = 0 then mnsR m l else []), iv (ckR m l)]) := by
 refine Fn.go Tryz.func221 Tryz.ntmps221 (fun g w d => ?_);apply yb;refine yH ?_;iterate 2 refine ya ?_
 apply yn;iterate 2 refine ya ?_
 refine yr (zaL m l hl) ?_;refine ye ?_;apply yd;apply yb;refine yh ?_;refine yk rfl ?_ ?_<;>intro hc1
 ·apply yb;refine yp ?_;refine X.ret ?_;refine yu (yl (ts := [(4, zb9 []), (5, iv (ckR m l))]) (hs := [])) ?_;refine yz ?_ ?_;all_goals (first | (simp [hc1]; done) | (rw [if_pos hc1, ← hfin]; rfl) | (rw [if_neg hc1]) | (rw [hc1]; rfl) | rfl)
 apply yf;apply yb;refine ye ?_;iterate 2 apply yd
 refine y3 (yZ zhq 27 1 7 7 rfl rfl) ?_;apply yc;refine ye ?_;apply X.block;refine y9 (ι := Nat) (fun (k : Nat) => [(1, sgsA l), (2, .ptr 2 0 0 0), (7, .own 7), (8, iv (k : Int))]) (fun (k : Nat) => [(2, .box (mnE m) 23), (7, .row zhq ((yU l k).map (zfK m l)) 27 1)]) (fun (k : Nat) => k <= l.length) (fun (k : Nat) => l.length - k) 0 (fun k hk => ?_);apply yd;apply yb;refine yX ?_;refine yk rfl ?_ ?_<;>intro hc2
 ·obtain ⟨s, hs⟩ : ∃ s, l[k]? = some s := ⟨_, lgg (by omega)⟩;have hs2 : l[(k : Int).toNat]? = some s := by simpa using hs
  have hdl := zaY l k;have htl : ((yU l k).map (zfK m l)).length <= 1000 := by simp; omega
  apply yf;apply yd;apply X.block;apply yb;iterate 5 refine ya ?_
  refine ye ?_;refine yk rfl ?_ ?_<;>intro hc3
  ·obtain ⟨p, hk0, hp, hpS, hp8⟩ := zp3 hc1 hs hc3;have hrow2 := ziz (zfK m l) hs hc3;rw [show zfK m l k = mngR m p by unfold zfK; rw [hpS]] at hrow2;apply yd;refine zi [9,28,29,30,31,32,33,34] [0,0,0,4,14,30,63,127] mo ?_;(iterate 6 refine yj ?_);refine zj (zbk m _) ?_;refine yj ?_;refine yR ?_;apply Ex.nil;apply yc;(iterate 2 refine ya ?_);refine yO zhq [_] ?_;refine yi ?_;refine ye ?_;apply yc;refine yp ?_;refine yL (k + 1)
  ·have hrow2 := zkd (zfK m l) hs hc3;apply yf;apply yc;refine yp ?_;refine yL (k + 1)
 ·have hkl : k = l.length := by omega
  subst hkl;have hfin : (yU l l.length).map (zfK m l) = mnsR m l := rfl;apply X.exit;apply yb;refine yp ?_;refine X.ret ?_;refine yu (Imp.freeze (k := 7) rfl) ?_;refine yz ?_ ?_;all_goals (first | (simp [hc1]; done) | (rw [if_pos hc1, ← hfin]; rfl) | (rw [if_neg hc1]) | (rw [hc1]; rfl) | rfl)
set_option maxHeartbeats 4000000 in
theorem ze8 (m : Mn) (l : List Sg) (hl : l.length <= 1000) : Fn Tryz.prog 143 [mnA m, sgsA l] (.tup [yg (if ckR m l = 0 then zkb m l else []), iv (ckR m l)]) := by
 refine Fn.go Tryz.func143 Tryz.ntmps143 (fun g w d => ?_);apply yb;refine yH ?_;iterate 2 refine ya ?_
 apply yn;iterate 2 refine ya ?_
 refine yr (zaL m l hl) ?_;refine ye ?_;apply yd;apply yb;refine yh ?_;refine yk rfl ?_ ?_<;>intro hc1
 ·apply yb;refine yp ?_;refine X.ret ?_;refine yu (yl (ts := [(4, yg []), (5, iv (ckR m l))]) (hs := [])) ?_;refine yz ?_ ?_;all_goals (first | (simp [hc1]; done) | (rw [if_pos hc1, ← hfin]; rfl) | (rw [if_neg hc1]) | (rw [hc1]; rfl) | rfl)
 apply yf;apply yb;refine ye ?_;iterate 2 apply yd
 refine y3 (yZ intE 3 1 7 7 rfl rfl) ?_;apply yc;refine ye ?_;apply X.block;refine y9 (ι := Nat) (fun (k : Nat) => [(1, sgsA l), (2, .ptr 2 0 0 0), (7, .own 7), (8, iv (k : Int))]) (fun (k : Nat) => [(2, .box (mnE m) 23), (7, .row intE ((yU l k).map (zbS m l)) 3 1)]) (fun (k : Nat) => k <= l.length) (fun (k : Nat) => l.length - k) 0 (fun k hk => ?_);apply yd;apply yb;refine yX ?_;refine yk rfl ?_ ?_<;>intro hc2
 ·obtain ⟨s, hs⟩ : ∃ s, l[k]? = some s := ⟨_, lgg (by omega)⟩;have hs2 : l[(k : Int).toNat]? = some s := by simpa using hs
  have hdl := zaY l k;have htl : ((yU l k).map (zbS m l)).length <= 1000 := by simp; omega
  apply yf;apply yd;apply X.block;apply yd;apply yb;iterate 5 refine ya ?_
  refine ye ?_;refine yk rfl ?_ ?_<;>intro hc3
  ·have hrow2 := zkd (zbS m l) hs hc3;apply X.exit;apply yc;refine yp ?_;refine yL (k + 1)
  obtain ⟨p, hk0, hp, hpS, hp8⟩ := zp3 hc1 hs hc3;have hrow2 := ziz (zbS m l) hs hc3;rw [show zbS m l k = zaP m l k p by unfold zbS; rw [hpS]] at hrow2;have hml := znU m p;obtain ⟨c0, hc0⟩ : ∃ c0, (mngR m p)[(0 : Int).toNat]? = some c0 := ⟨_, lgg (by simp; omega)⟩
  have hhd : (mngR m p).headD 0 = c0 := by
   cases hq : mngR m p with
   | nil => simp [hq] at hml
   | cons a b => simp [hq] at hc0; simp [hc0]
  apply yf;apply yd;refine zi [9,30,31,32,33,34,35,36] [0,0,0,4,14,30,63,127] mo ?_;iterate 6 refine yj ?_
  refine zj (zbk m _) ?_;refine yj ?_;refine yR ?_;apply Ex.nil;apply yd;refine zi [10,11,37,38,39,40,41,42,43,44,45,46,47] [0,0,0,4,14,30,62,127,255,511,511,1023,4095] mo ?_;iterate 7 refine yj ?_
  refine zj (zaA m p.Value) ?_;iterate 5 refine yj ?_
  refine yR ?_;apply Ex.nil;apply X.block;apply yb;refine yX ?_;refine yk rfl ?_ ?_<;>intro hc4
  ·have hch : zaP m l k p = c0 := by unfold zaP; rw [if_pos (by omega), hhd]
   rw [hch] at hrow2;apply yc;(iterate 4 refine ya ?_);refine yO intE [_] ?_;refine yi ?_;refine ye ?_;apply yc;refine yp ?_;refine yL (k + 1)
  ·have hnx := znV (k := k) (v := p.Value) (by omega : k < l.length) (by omega);apply yd;refine zi [62,63,64,65,66,67,68,69,70,71,72,73,74,75,76,77,78,79,80,81,82] [0,1,0,4,15,31,63,63,191,511,1023,2047,63,63,8255,28735,61503,127039,262143,524287,1048575] mo ?_;(iterate 6 refine yj ?_);(iterate 13 refine ChM.gi ?_);(iterate 2 refine yj ?_);refine yR ?_;apply Ex.nil;refine yk rfl ?_ ?_<;>intro hc5
   ·have hch : zaP m l k p = ownV (mngR m p) p.Value := by unfold zaP; rw [if_neg (by omega), if_pos (hnx.1 hc5)]
    rw [hch] at hrow2;apply yc;(iterate 8 refine ya ?_);refine yr (zfL (mngR m p) p.Value (by omega)) ?_;refine yO intE [_] ?_;refine yi ?_;refine ye ?_;apply yc;refine yp ?_;refine yL (k + 1)
   ·have hch : zaP m l k p = m.aV p.Value := by unfold zaP; rw [if_neg (by omega), if_neg (fun h => by have := hnx.2 h; omega)]
    rw [hch] at hrow2;apply yc;(iterate 2 refine ya ?_);refine yO intE [_] ?_;refine yi ?_;refine ye ?_;apply yc;refine yp ?_;refine yL (k + 1)
 ·have hkl : k = l.length := by omega
  subst hkl;have hfin : (yU l l.length).map (zbS m l) = zkb m l := rfl;apply X.exit;apply yb;refine yp ?_;refine X.ret ?_;refine yu (Imp.freeze (k := 7) rfl) ?_;refine yz ?_ ?_;all_goals (first | (simp [hc1]; done) | (rw [if_pos hc1, ← hfin]; rfl) | (rw [if_neg hc1]) | (rw [hc1]; rfl) | rfl)
theorem zbF (m : Mn) (l : List Sg) (hl : l.length <= 1000) : Fn Tryz.prog 79 [mnA m, sgsA l] (iv (ckD m l)) := by
 rw [zka]; exact zaL m l hl
theorem C_tactusref09_Meanings' (m : Mn) (l : List Sg) (hl : l.length <= 1000) : Fn Tryz.prog 221 [mnA m, sgsA l] (.tup [zb9 (if ckD m l = 0 then mnsD m l else []), iv (ckD m l)]) := by
 have h := zdi m l hl;rw [← zka] at h;by_cases e : ckD m l = 0
 ·rw [if_pos e] at h ⊢; rw [zri e]; exact h
 ·rw [if_neg e] at h ⊢; exact h
theorem zeC (m : Mn) (l : List Sg) (hl : l.length <= 1000) : Fn Tryz.prog 143 [mnA m, sgsA l] (.tup [yg (if ckD m l = 0 then zm m l else []), iv (ckD m l)]) := by
 have h := ze8 m l hl;rw [← zka] at h;by_cases e : ckD m l = 0
 ·rw [if_pos e] at h ⊢; rw [zlY e]; exact h
 ·rw [if_neg e] at h ⊢; exact h
end Go.Rse
