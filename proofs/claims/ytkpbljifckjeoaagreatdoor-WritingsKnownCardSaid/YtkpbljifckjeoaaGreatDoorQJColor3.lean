/-
  Walks: pairs of minor color.
-/
import Derived.Test.YtkpbljifckjeoaaGreatDoorQJColor1
import Derived.Test.YtkpbljifckjeoaaGreatDoorQJDot6
import Derived.Test.YtkpbljifckjeoaaGreatDoorQJSpan1
import Derived.Test.YtkpbljifckjeoaaGreatDoorQLogB
import Derived.Test.YtkpbljifckjeoaaGreatDoorQLogC
set_option linter.unusedSimpArgs false
set_option linter.unusedVariables false
namespace Go.Rse
open Go Go.Proofs
attribute [local irreducible] Pur yC yE Ex X Fn Imp LeV LeB FnO It yJ
theorem zlF {l : List Sg} {i : Int} (h : (((((l.length : Int) <= i + 1 \/ clr (l.getD i.toNat default) = false) \/ ¬ (l.getD i.toNat default).Value = 4) \/ clr (l.getD (i + 1).toNat default) = false) \/ ¬ (l.getD (i + 1).toNat default).Value = 5)) : za6 l i = false := by
 unfold za6;rcases h with (((h | h) | h) | h) | h
 ·rw [decide_eq_false (show ¬ i + 1 < (l.length : Int) by omega)]; simp
 ·rw [h]; simp
 ·rw [decide_eq_false h]; simp
 ·rw [h]; simp
 ·rw [decide_eq_false h]; simp
theorem zlb {l : List Sg} {i : Int} (h : (((i + 1 < (l.length : Int) /\ clr (l.getD i.toNat default) = true) /\ (l.getD i.toNat default).Value = 4) /\ clr (l.getD (i + 1).toNat default) = true) /\ (l.getD (i + 1).toNat default).Value = 5) : za6 l i = (!(decide (i + 2 < (l.length : Int)) && decide ((l.getD (i + 2).toNat default).Kind = 3)) && frB (ze9 l (-1) (i - 1)) && frB (ze9 l 1 (i + 2))) := by
 unfold za6;rw [decide_eq_true h.1.1.1.1, h.1.1.1.2, decide_eq_true h.1.1.2, h.1.2, decide_eq_true h.2]; rfl
attribute [local irreducible] za6 ze9 frB clr
theorem zed (l : List Sg) (hl : l.length <= 4000000000) (i : Int) (h0 : 0 <= i) (h1 : i < (l.length : Int)) : Fn Tryz.prog 205 [sgsA l, iv i] (.bool (za6 l i)) := by
 refine Fn.go Tryz.func205 Tryz.ntmps205 (fun g w d => ?_);apply yb;refine ye ?_;apply yd;apply yb;iterate 5 refine ya ?_
 refine ExF.at 5 ?_;refine yG ?_;iterate 4 refine ExF.gi ?_
 refine ExF.cg (zaB _) ?_;refine ExF.gi ?_;iterate 2 refine yG ?_
 iterate 6 refine ExF.gi ?_
 iterate 2 refine yG ?_
 iterate 5 refine ExF.gi ?_
 refine ExF.cg (zaB _) ?_;refine ExF.gi ?_;iterate 2 refine yG ?_
 iterate 7 refine ExF.gi ?_
 refine yH ?_;refine ye ?_;refine yl rfl ?_ ?_<;>intro hc1
 ·apply yb;refine ye ?_;refine X.ret ?_;refine yh ?_;all_goals (rw [zlF hc1])
 apply yf;apply yb;iterate 5 refine ya ?_
 refine ExF.at 5 ?_;refine yG ?_;iterate 7 refine ExF.gi ?_
 refine yH ?_;iterate 2 refine ya ?_
 apply yi;iterate 2 refine ya ?_
 refine ExF.at 2 ?_;refine yG ?_;iterate 3 refine ExF.gi ?_
 refine ExF.cg (zec l hl (i - 1) (-1) (.inr rfl) (by omega) (by omega) (by omega)) ?_;iterate 2 refine yG ?_
 iterate 3 refine ExF.gi ?_
 refine ExF.cg (zec l hl (i + 2) 1 (.inl rfl) (by omega) (by omega) (by omega)) ?_;refine yH ?_;refine yg ?_;refine X.ret ?_;refine yh ?_;all_goals (rw [zlb hc1])
end Go.Rse
namespace Go.Rse
open Go Go.Proofs
theorem ziD (a : Int) : coll posI [a] = if 0 < a then [a] else [] := by
 unfold coll dl posI srtI;by_cases h : 0 < a
 ·simp only [h, if_true, List.filter_cons, decide_true, Bool.not_true, Bool.not_false, List.filter_nil, List.mergeSort_singleton];simp [Lib.compact, Lib.compactUpTo, Lib.keeps, List.range_succ]
 ·simp only [h, if_false, List.filter_cons, decide_false, Bool.not_true, Bool.not_false, List.filter_nil, List.mergeSort_nil];simp [Lib.compact, Lib.compactUpTo]
theorem srt2 {a v : Int} (h : a < v) : srtI [v, a] = [a, v] := by
 unfold srtI;have h1 : ¬ v <= a := by omega
 simp [List.mergeSort, List.MergeSort.Internal.splitInTwo, List.merge, h1]
theorem zlG {v a : Int} (hv : 0 < v) (ha : a < v) : coll posI [v, a] = if 0 < a then [a, v] else [v] := by
 unfold coll;by_cases h : 0 < a
 ·have e : dl (fun v => !posI v) [v, a] = [v, a] := by simp [dl, posI, h, hv]
  rw [e, srt2 ha, if_pos h];have h2 : ¬ v = a := by omega
  have h3 : ¬ a = v := by omega
  simp [Lib.compact, Lib.compactUpTo, Lib.keeps, List.range_succ, h2, h3]
 ·have e : dl (fun v => !posI v) [v, a] = [v] := by simp [dl, posI, h, hv]
  rw [e, if_neg h];simp [srtI, Lib.compact, Lib.compactUpTo, Lib.keeps, List.range_succ]
theorem zpK (m : Mn) {v : Int} (h : 1 <= v) : 0 <= m.ab v /\ m.ab v < v := by
 unfold Mn.ab;cases e : (perfL m).find? fun k => decide (k < v) with
 | none => simp; omega
 | some k =>
  have h1 := List.find?_some e;have h2 := List.mem_of_find?_eq_some e;have h3 := (List.mem_filter.1 h2).1;simp at h1 h3 ⊢;omega
theorem p23 {m : Mn} {v : Int} (hM : ckM m = 0) : m.p v = 2 \/ m.p v = 3 := by
 have hO : m.Ok := by
  unfold ckM at hM; split at hM
  ·assumption
  ·omega
 obtain ⟨a, b, c, d⟩ := hO;unfold two3 at *
 unfold Mn.p;split
 ·assumption
 ·split
  ·assumption
  ·split
   ·assumption
   ·split
    ·assumption
    ·exact .inl rfl
theorem zhb {m : Mn} {v : Int} (hM : ckM m = 0) (h1 : 1 <= v) (h2 : v <= 8) : ckMV m v = 0 := by
 have hO : m.Ok := by
  unfold ckM at hM; split at hM
  ·assumption
  ·omega
 unfold ckMV; rw [if_pos hO, if_pos ⟨h1, h2⟩]
theorem zjr {m : Mn} {v : Int} (h1 : 1 <= v) : 0 <= m.aV v /\ m.aV v < v := by
 have := zpK m h1;unfold Mn.aV;split
 ·exact this
 ·omega
def mngR (m : Mn) (s : Sg) : List Int :=
 if s.Kind = 2 then [m.aV s.Value] else if s.Color = true then [0] else if m.p s.Value = 2 /\ m.aV s.Value = 0 then [0] else if m.p s.Value = 2 then [0, m.aV s.Value] else if m.aV s.Value = 0 then [s.Value] else [m.aV s.Value, s.Value]
theorem zlH {m : Mn} {s : Sg} (hM : ckM m = 0) (h1 : 1 <= s.Value) (h2 : s.Value <= 8) (hz : ¬ (s.Kind = 2 /\ m.aV s.Value = 0)) : mngs m s = mngR m s := by
 have ha := zjr (m := m) h1;have hp := p23 (m := m) (v := s.Value) hM;have hpV : m.pV s.Value = m.p s.Value := by unfold Mn.pV; rw [if_pos (zhb hM h1 h2)]
 unfold mngs mngR;rw [hpV, ziD];by_cases hK : s.Kind = 2
 ·have : 0 < m.aV s.Value := by
   have : ¬ m.aV s.Value = 0 := fun h => hz ⟨hK, h⟩
   omega
  rw [if_pos hK, if_pos hK, if_pos this]
 ·rw [if_neg hK, if_neg hK];by_cases hC : s.Color = true
  ·rw [if_pos hC, if_pos hC]
  ·rw [if_neg hC, if_neg hC];rcases hp with hp | hp
   ·by_cases h0 : m.aV s.Value = 0
    ·simp [hp, h0]
    ·have h4 : 0 < m.aV s.Value := by omega
     simp [hp, h0, h4]
   ·rw [zlG (by omega) ha.2];by_cases h0 : m.aV s.Value = 0
    ·simp [hp, h0]
    ·have h4 : 0 < m.aV s.Value := by omega
     simp [hp, h0, h4]
theorem zlc {m : Mn} {s : Sg} (hM : ckM m = 0) (h1 : 1 <= s.Value) (h2 : s.Value <= 8) : (mngs m s).length = 0 ↔ (s.Kind = 2 /\ m.aV s.Value = 0) := by
 constructor
 ·intro h;refine Classical.byContradiction fun hz => ?_
  rw [zlH hM h1 h2 hz] at h;unfold mngR at h;split at h
  ·simp at h
  ·split at h
   ·simp at h
   ·split at h
    ·simp at h
    ·split at h
     ·simp at h
     ·split at h <;> simp at h
 ·rintro ⟨hK, h0⟩
  unfold mngs;rw [if_pos hK, ziD, if_neg (by omega)]; rfl
theorem zne {m : Mn} {l : List Sg} {k : Nat} {s : Sg} (h0 : sgF m l k s = 0) (hK : s.Kind ≠ 3) : (s.Kind = 1 \/ s.Kind = 2) /\ 1 <= s.Value /\ s.Value <= 8 := by
 unfold sgF at h0;by_cases h : s.Kind = 1 \/ s.Kind = 2
 ·rw [if_pos h] at h0;refine ⟨h, ?_⟩;by_cases hv : 1 <= s.Value /\ s.Value <= 8
  ·exact hv
  ·rw [if_neg hv] at h0; simp at h0
 ·rw [if_neg h, if_neg hK] at h0; simp at h0
theorem zfV {m : Mn} {l : List Sg} (h : ckD m l = 0) : ckM m = 0 /\ zaa m l 0 l = 0 := by
 unfold ckD at h;by_cases hM : ckM m = 0
 ·rw [if_pos hM] at h; exact ⟨hM, h⟩
 ·rw [if_neg hM] at h; exact absurd h hM
theorem zpL {m : Mn} {l : List Sg} (h : ckD m l = 0) {j : Nat} {s p : Sg} (hs : l[j + 1]? = some s) (h3 : s.Kind = 3) (hp : l[j]? = some p) :
 p.Kind ≠ 3 /\ (p.Kind = 1 \/ p.Kind = 2) /\ 1 <= p.Value /\ p.Value <= 8 /\ ¬ (p.Kind = 2 /\ m.aV p.Value = 0) /\ mngs m p = mngR m p := by
 obtain ⟨hM, hF⟩ := zfV h;have hall := (zaE hF l.length (Nat.le_refl _)).2;have h0 := hall (j + 1) s (List.getElem?_eq_some_iff.1 hs).1 hs;unfold sgF at h0;rw [if_neg (by omega), if_pos h3] at h0;simp only [hp] at h0;have hk : ¬ (p.Kind = 3 \/ (mngs m p).length = 0) := fun h => by rw [if_pos h] at h0; simp at h0
 have hk3 : p.Kind ≠ 3 := fun h => hk (.inl h)
 obtain ⟨h5, h1, h2⟩ := zne (hall j p (List.getElem?_eq_some_iff.1 hp).1 hp) hk3;have hz : ¬ (p.Kind = 2 /\ m.aV p.Value = 0) := fun h => hk (.inr ((zlc hM h1 h2).2 h))
 exact ⟨hk3, h5, h1, h2, hz, zlH hM h1 h2 hz⟩
theorem zfW {l : List Sg} : ∀ (k : Nat) (x : Int), x ∈ y7 l k -> ∃ (j : Nat) (s : Sg), x = (j : Int) /\ l[j]? = some s /\ s.Kind = 3
 | 0, x, hx => by simp [y7] at hx
 | k + 1, x, hx => by
  simp only [y7, List.mem_append] at hx;rcases hx with hx | hx
  ·exact zfW k x hx
  ·cases hs : l[k]? with
   | none => simp [hs] at hx
   | some s =>
    simp only [hs] at hx;split at hx
    ·rename_i hK; simp at hx; exact ⟨k, s, hx, hs, hK⟩
    ·simp at hx
theorem znf {m : Mn} {l : List Sg} (h : ckD m l = 0) {x : Int} (hx : x ∈ y7 l l.length) : ∃ (j : Nat) (s p : Sg), x = ((j + 1 : Nat) : Int) /\ l[j + 1]? = some s /\ s.Kind = 3 /\ l[j]? = some p /\ zga l x = some p := by
 obtain ⟨j, s, p, h1, h2, h3⟩ := zds (zfV h).2 l.length (Nat.le_refl _) x hx;obtain ⟨j', s', h4, h5, h6⟩ := zfW l.length x hx;have : j' = j + 1 := by omega
 subst this;rw [h2] at h5; injection h5 with h5; subst h5;refine ⟨j, s, p, h1, h2, h6, h3, ?_⟩;unfold zga;rw [show (x - 1).toNat = j by omega]; exact h3
def ownV : List Int -> Int -> Int
 | [], _ => 0
 | x :: r, v => if x = 0 \/ x = v then x else ownV r v
def zfB (m : Mn) (l : List Sg) (i : Int) (p : Sg) : Int :=
 if (mngR m p).length = 1 then (mngR m p).headD 0 else if zee l i > p.Value then ownV (mngR m p) p.Value else m.aV p.Value
theorem zlI {m : Mn} {l : List Sg} {i : Int} {p : Sg} (hM : ckM m = 0) (h1 : 1 <= p.Value) (h2 : p.Value <= 8) (he : mngs m p = mngR m p) : zaC m l i p = zfB m l i p := by
 have ha := zjr (m := m) h1;have hp := p23 (m := m) (v := p.Value) hM;have hpV : m.pV p.Value = m.p p.Value := by unfold Mn.pV; rw [if_pos (zhb hM h1 h2)]
 unfold zaC zfB;rw [he, hpV];unfold mngR;split
 ·simp
 ·split
  ·simp
  ·split
   ·simp
   ·split
    ·rename_i h3 h4 h5 h6;have : ¬ m.aV p.Value = 0 := fun h => h5 ⟨h6, h⟩
     by_cases hn : zee l i <= p.Value
     ·simp [hn]; omega
     ·simp [hn, ownV, h6]
    ·split
     ·simp
     ·rename_i h3 h4 h5 h6 h7;by_cases hn : zee l i <= p.Value
      ·simp [hn]; omega
      ·have h8 : m.p p.Value = 3 := by omega
       have h9 : ¬ m.aV p.Value = p.Value := by omega
       simp [hn, ownV, h8, h7, h9]
end Go.Rse
namespace Go.Rse
open Go Go.Proofs
attribute [local irreducible] Pur yC yE Ex X Fn Imp LeV LeB FnO It yJ
end Go.Rse
namespace Go.Rse
open Go Go.Proofs
attribute [local irreducible] Pur yC yE Ex X Fn Imp LeV LeB FnO It yJ
def zav (m : Mn) (l : List Sg) (i : Int) : Bool := decide (m.Pro = 2) && za6 l i
def zP (m : Mn) (l : List Sg) : Nat -> List Int
 | 0 => []
 | k + 1 => if zav m l (k : Int) = true then zP m l k ++ [(k : Int)] else zP m l k
def zak (m : Mn) (l : List Sg) : List Int := zP m l l.length
def zfa (m : Mn) (l : List Sg) : List (List AV) := (zak m l).map fun i => [iv i]
theorem zeM {m : Mn} {l : List Sg} {k : Nat} (h : zav m l (k : Int) = true) : zP m l k ++ [(k : Int)] = zP m l (k + 1) := by
 conv => rhs; unfold zP
 rw [if_pos h]
theorem zfX {m : Mn} {l : List Sg} {k : Nat} (h : zav m l (k : Int) = false) : zP m l k = zP m l (k + 1) := by
 conv => rhs; unfold zP
 rw [if_neg (by simp [h])]
theorem zhc (m : Mn) (l : List Sg) : ∀ k, (zP m l k).length <= k
 | 0 => Nat.le_refl _
 | k + 1 => by
  unfold zP;have := zhc m l k;split
  ·simp; omega
  ·omega
theorem zhd {m : Mn} {l : List Sg} (k : Nat) : ∀ d, ∃ r, zP m l (k + d) = zP m l k ++ r
 | 0 => ⟨[], by simp⟩
 | d + 1 => by
  obtain ⟨r, hr⟩ := zhd (m := m) (l := l) k d;show ∃ r, zP m l ((k + d) + 1) = _;by_cases h : zav m l ((k + d : Nat) : Int) = true
  ·rw [← zeM h, hr]; exact ⟨r ++ [((k + d : Nat) : Int)], by simp⟩
  ·rw [← zfX (by simpa using h)]; exact ⟨r, hr⟩
theorem zld {m : Mn} {l : List Sg} {k : Nat} (hk : k < l.length) (h : zav m l (k : Int) = true) : (zfa m l)[(zP m l k).length]? = some [iv (k : Int)] := by
 obtain ⟨r, hr⟩ := zhd (m := m) (l := l) (k + 1) (l.length - (k + 1));rw [show k + 1 + (l.length - (k + 1)) = l.length by omega, ← zeM h] at hr;unfold zfa zak;rw [hr]; simp
theorem zeN {m : Mn} {l : List Sg} {j : Nat} {zs : List AV} (h : (zfa m l)[j]? = some zs) : ∃ i, (zak m l)[j]? = some i /\ zs = [iv i] := by
 rw [zfa, List.getElem?_map] at h;cases hk : (zak m l)[j]? with
 | none => simp [hk] at h
 | some k => simp [hk] at h; exact ⟨k, rfl, h.symm⟩
attribute [local irreducible] za6 zP zak
theorem zfm (m : Mn) (l : List Sg) (hl : l.length <= 4000000000) : It Tryz.prog 204 [.ept (fun _ : Unit => [.sl sgE l]) () 0, .ept (fun _ : Unit => mnE m) () 0] (zfa m l) := by
 have hp0 : (zP m l 0).length = 0 := by unfold zP; rfl
 refine It.intro (ts := fun lY => [(0, .yv lY), (1, .ept (fun _ : Unit => [.sl sgE l]) () 0), (2, .ept (fun _ : Unit => mnE m) () 0)]) (n := 25) (by kernel_rfl) Tryz.func204 rfl Tryz.ntmps204 rfl (fun _ => rfl) (by simp) (fun g w d ds Y lY hY => ?_);apply yb;refine yo ?_;apply X.block;refine zl (ι := Nat) (fun (k : Nat) => [(0, .yv lY), (1, .ept (fun _ : Unit => [.sl sgE l]) () 0), (2, .ept (fun _ : Unit => mnE m) () 0), (6, iv l.length), (7, iv (k : Int))]) (fun (k : Nat) => [(1000000, .yld (zP m l k).length true)]) (fun (k : Nat) => k <= l.length) (fun (k : Nat) => l.length - k) 0 (fun k hk => ?_);apply yb;refine ye ?_;apply yd;refine yl rfl ?_ ?_<;>intro hc1
 ·apply yf;apply yd;apply X.block;apply yb;refine yg ?_;apply yd;have hcs : (decide (m.Pro = 2) = false) \/ (decide (m.Pro = 2) = true /\ za6 l (k : Int) = false) \/ (decide (m.Pro = 2) = true /\ za6 l (k : Int) = true) := by cases decide (m.Pro = 2) <;> cases za6 l (k : Int) <;> simp
  rcases hcs with hp | ⟨hp, hq⟩ | ⟨hp, hq⟩
  ·have hg3 : (decide (m.Pro = 2) == true) = false := by rw [hp]; rfl
   have hn : zav m l (k : Int) = false := by unfold zav; rw [hp]; rfl
   have hst := zfX hn;have hst2 := congrArg List.length hst.symm;apply yc;(iterate 4 refine ya ?_);(iterate 3 refine zaN ?_);(iterate 2 refine ya ?_);(iterate 4 refine zaN ?_);refine ye ?_;refine yl rfl ?_ ?_<;>intro hc2
   ·exact absurd hc2 (by decide)
   apply yf;apply yc;refine yg ?_;refine yM (k + 1)
  ·have hg3 : (decide (m.Pro = 2) == true) = true := by rw [hp]; rfl
   have hg8 : (za6 l (k : Int) == true) = false := by rw [hq]; rfl
   have hn : zav m l (k : Int) = false := by unfold zav; rw [hp, hq]; rfl
   have hst := zfX hn;have hst2 := congrArg List.length hst.symm;apply yc;(iterate 4 refine ya ?_);iterate 2 refine zM ?_
   (refine zmI rfl rfl ?_ (zcC rfl rfl rfl (LeL.refl _) (zed l hl (k : Int) (by omega) (by omega))) rfl rfl ?_; iterate 1 (· first | exact hg3 | assumption | rfl | (simp_all; done) | omega))
   (iterate 2 refine ya ?_);(iterate 4 refine zaN ?_);refine ye ?_;refine yl rfl ?_ ?_<;>intro hc3
   ·exact absurd hc3 (by decide)
   apply yf;apply yc;refine yg ?_;refine yM (k + 1)
  ·have hg3 : (decide (m.Pro = 2) == true) = true := by rw [hp]; rfl
   have hg8 : (za6 l (k : Int) == true) = true := by rw [hq]; rfl
   have hn : zav m l (k : Int) = true := by unfold zav; rw [hp, hq]; rfl
   have hst := zeM hn;have hst2 := congrArg List.length hst;have hq1 := zld (by omega) hn;rw [List.length_append] at hst2;apply yc;(iterate 4 refine ya ?_);iterate 2 refine zM ?_
   (refine zmI rfl rfl ?_ (zcC rfl rfl rfl (LeL.refl _) (zed l hl (k : Int) (by omega) (by omega))) rfl rfl ?_; iterate 1 (· first | exact hg3 | assumption | rfl | (simp_all; done) | omega))
   (iterate 2 refine ya ?_);(iterate 2 refine zM ?_);refine zbd hY rfl rfl rfl (fun _ => ⟨_, _, rfl, rfl, rfl, LeL.refl _, rfl, rfl, hq1, fun b => ?_⟩) (fun h => absurd (h.symm.trans hg8) (by decide));refine zM ?_;refine ye ?_;refine yl rfl ?_ ?_<;>intro hc4
   ·subst hc4;refine X.ret ?_;refine ⟨.inr rfl, _, false, rfl, fun hb => by simp at hb⟩
   subst hc4;have hst3 : (zP m l (k + 1)).length = (zP m l k).length + 1 := hst2.symm;clear hst2;apply yf;apply yc;refine yg ?_;refine yM (k + 1)
 ·have hkl : k = l.length := by omega
  subst hkl;apply X.exit;refine ⟨.inl rfl, _, true, rfl, fun _ => by unfold zfa zak; rw [List.length_map]⟩
theorem zgV (m : Mn) (l : List Sg) : Fn Tryz.prog 168 [mnA m, sgsA l] (.fn 204 [.ept (fun _ : Unit => [.sl sgE l]) () 0, .ept (fun _ : Unit => mnE m) () 0]) := by
 refine Fn.go Tryz.func168 Tryz.ntmps168 (fun g w d => ?_);apply yb;refine yF ?_;refine zbr ?_;refine ya ?_;apply yi;refine yg ?_;refine X.ret ?_;refine RetQ.imp ((yT (k := 2) rfl rfl).trans (yT (k := 3) rfl rfl)) ?_;refine yh ?_;all_goals (first | rfl | (simp_all; done))
end Go.Rse
namespace Go.Rse
open Go Go.Proofs
attribute [local irreducible] Pur yC yE Ex X Fn Imp LeV LeB FnO It yJ
theorem zhe (m : Mn) (l : List Sg) : (zak m l).length <= l.length := by unfold zak; exact zhc m l _
theorem zle {α : Type} {a : List α} {j : Nat} {x : α} (h : a[j]? = some x) : a.take j ++ [x] = a.take (j + 1) := by
 rw [List.take_add_one, h]; rfl
attribute [local irreducible] za6 zP zak zav ckD
theorem zgW (m : Mn) (z : List Sg) (hl : z.length <= 1000) : FnO Tryz.prog 124 [mnA m, sgsA z] [] [] (.tup [.own 39, iv (ckD m z)]) [(39, .row intE (if ckD m z = 0 then zak m z else []) 3 1)] := by
 refine FnO.intro (ts := [(0, mnA m), (1, sgsA z)]) (rv := [.tmp 4, .tmp 5]) (n := 24) (cs := []) (by kernel_rfl) Tryz.func124 rfl Tryz.ntmps124 rfl rfl (by simp) rfl rfl rfl rfl (fun g w d vh => ?_);apply yb;refine yF ?_;refine yg ?_;apply yd;apply yb;iterate 2 refine ya ?_
 refine yj (zaK m z hl) ?_;refine ya ?_;apply yi;refine yg ?_;refine yl rfl ?_ ?_<;>intro hc1
 ·have hE : [] = (if ckD m z = 0 then zak m z else []) := by rw [if_neg hc1]
  apply yb;refine yo ?_;refine X.ret ?_;refine zkR.imp (ze intE 3 1 4 39 rfl rfl) ?_;refine zkR.mk (ts := [(4, .own 39), (5, iv (ckD m z))]) (.inr rfl) (yn) (.many (by decide) (.cons (.tmp rfl (LeV.eq rfl)) (.cons (.tmp rfl (LeV.eq rfl)) .nil)))
 have hpl := zhe m z;apply yf;apply yb;refine yD ?_;apply Ex.nil;iterate 2 apply yd
 refine X.imp (zaI intE 3 1 7 39 59 rfl rfl) ?_;apply yc;iterate 2 refine ya ?_
 refine yj (zgV m z) ?_;apply Ex.nil;apply X.block;have ht0 : [] = (zak m z).take 0 := by simp
 have htl : (zak m z).take (zfa m z).length = (if ckD m z = 0 then zak m z else []) := by
  rw [if_pos hc1]; unfold zfa; rw [List.length_map, List.take_length]
 refine X.range (sl := [7]) (fun j => ([.ptr 7 0 0 0], [(1000001, .hold vh []), (7, .box [.own 39] 59), (39, .row intE ((zak m z).take j) 3 1)])) (fun j => True) 900001 900002 rfl rfl (by decide) (fun j zs hj => by obtain ⟨i, _, rfl⟩ := zeN hj; rfl) (zfm m z (by omega)) trivial rfl rfl (by decide) (Nat.zero_le _) (by simp) (fun j zs hj => by obtain ⟨i, _, rfl⟩ := zeN hj; rfl) (fun _ => rfl) rfl rfl (fun l o us => yn) (trivial) (fun j zs hj hJ l ready busy rb vs g w hb hyB => ?_) (fun hJ => ?_)
 ·obtain ⟨i, hi, rfl⟩ := zeN hj;have hst := zle hi;have hlt : ((zak m z).take j).length <= 1000 := by simp; omega
  apply yc;refine ye ?_;refine ⟨rfl, rfl, ?_⟩;apply X.block;apply yc;iterate 2 refine ya ?_
  refine yW intE [_] ?_;iterate 2 refine Ex.mo ?_
  apply Ex.nil;refine ⟨[.ptr 7 0 0 0], [(1000001, .hold vh []), (7, .box [.own 39] 59), (39, .row intE ((zak m z).take (j + 1)) 3 1)], yn, rfl, trivial⟩
 apply yb;refine yo ?_;refine X.ret ?_;refine zkR.mk (ts := [(4, .own 39), (5, iv (ckD m z))]) (.inr rfl) (yn) (.many (by decide) (.cons (.tmp rfl (LeV.eq rfl)) (.cons (.tmp rfl (LeV.eq rfl)) .nil)))
end Go.Rse
namespace Go.Rse
open Go Go.Proofs
attribute [local irreducible] Pur yC yE Ex X Fn Imp LeV LeB FnO It yJ
attribute [local irreducible] za6 zP zak zav ckD
def prL (m : Mn) (l : List Sg) : List Int := if ckD m l = 0 then zak m l else []
def twos (n : Nat) : List Int := List.replicate n 2
theorem zlf (n : Nat) : twos n ++ [2] = twos (n + 1) := by unfold twos; rw [List.replicate_succ']
theorem zcU (n : Nat) : (twos n).length = n := by unfold twos; simp
theorem zhH (m : Mn) (l : List Sg) : (prL m l).length <= l.length := by
 unfold prL; split
 ·exact zhe m l
 ·simp
attribute [local irreducible] prL twos
end Go.Rse
namespace Go.Rse
open Go Go.Proofs
attribute [local irreducible] Pur yC yE Ex X Fn Imp LeV LeB FnO It yJ
attribute [local irreducible] za6 zP zak zav ckD
theorem zcV (m : Mn) (l : List Sg) (hl : l.length <= 1000) : FnO Tryz.prog 124 [mnA m, sgsA l] [] [] (.tup [.own 39, iv (ckD m l)]) [(39, .row intE (prL m l) 3 1)] := zgW m l hl
def ruK (p : List Int) (k : Nat) : List Int := twos k ++ p.drop k
theorem zng {p : List Int} {k : Nat} (h : k <= p.length) : (ruK p k).length = p.length := by unfold ruK; rw [List.length_append, zcU, List.length_drop]; omega
theorem znh {p : List Int} {k : Nat} (h : k < p.length) : (ruK p k).set k 2 = ruK p (k + 1) := by
 unfold ruK;rw [List.set_append_right _ _ (by rw [zcU]; omega), zcU, Nat.sub_self, ← zlf, List.append_assoc];congr 1;rw [List.drop_eq_getElem_cons h]; rfl
theorem zq8 (p : List Int) : p = ruK p 0 := by unfold ruK twos; rfl
theorem zq9 (p : List Int) : ruK p p.length = twos p.length := by unfold ruK; rw [List.drop_length, List.append_nil]
theorem zlJ {m : Mn} {l : List Sg} (h : ¬ ckD m l = 0) : prL m l = [] := by unfold prL; rw [if_neg h]
attribute [local irreducible] prL twos ruK
theorem zhI (m : Mn) (l : List Sg) (hl : l.length <= 1000) : Fn Tryz.prog 92 [mnA m, sgsA l] (.tup [ym (twos (prL m l).length), iv (ckD m l)]) := by
 have hq0 := zq8 (prL m l);have hqe := zq9 (prL m l);have hpl := zhH m l;refine Fn.go Tryz.func92 Tryz.ntmps92 (fun g w d => ?_);apply yb;refine yF ?_;iterate 2 refine ya ?_
 apply yi;iterate 2 refine ya ?_
 refine zaA [(39, 39)] (zcV m l hl) ?_;refine zu ?_;apply yd;apply yb;refine yg ?_;refine yl rfl ?_ ?_<;>intro hc1
 ·have ht : [] = twos (prL m l).length := by rw [zlJ hc1]; unfold twos; rfl
  apply yb;refine yo ?_;refine X.ret ?_;refine RetQ.imp (yn (ts := [(4, ym []), (5, iv (ckD m l))]) (hs := [])) ?_;refine yw ?_ ?_;all_goals (first | rfl | exact congrArg ym ht | exact congrArg ym hqe | exact congrArg (AV.int .i64) hc1.symm)
 apply yf;apply yd;apply yb;refine yo ?_;apply X.block;refine zl (ι := Nat) (fun (k : Nat) => [(6, .own 39), (7, iv 0), (19, iv ((prL m l).length : Int)), (20, iv (k : Int))]) (fun (k : Nat) => [(39, .row intE (ruK (prL m l) k) 3 1)]) (fun (k : Nat) => k <= (prL m l).length) (fun (k : Nat) => (prL m l).length - k) 0 (fun k hk => ?_);apply yb;refine ye ?_;apply yd;refine yl rfl ?_ ?_<;>intro hc2
 ·have hlen := zng (p := prL m l) (k := k) (by omega);have hst := znh (p := prL m l) (k := k) (by omega);apply yf;apply yd;apply X.block;apply yb;refine yg ?_;apply yc;iterate 3 refine ya ?_
  refine Ex.mo ?_;apply Ex.nil;apply yc;refine yg ?_;refine yM (k + 1)
 ·have hkl : k = (prL m l).length := by omega
  subst hkl;apply X.exit;apply yb;refine yo ?_;refine X.ret ?_;refine RetQ.imp (Imp.freeze (k := 39) rfl) ?_;refine yw ?_ ?_;all_goals (first | rfl | exact congrArg ym ht | exact congrArg ym hqe | exact congrArg (AV.int .i64) hc1.symm)
end Go.Rse
namespace Go.Rse
open Go Go.Proofs
attribute [local irreducible] Pur yC yE Ex X Fn Imp LeV LeB FnO It yJ
attribute [local irreducible] za6 zP zak zav ckD
attribute [local irreducible] prL andI
end Go.Rse
namespace Go.Rse
open Go Go.Proofs
section
variable {α : Type}
theorem zdq {q : Int} : ∀ (l : List (Int × α)) (i : Nat), mix q l i = (mix q l 0).map (fun p => (p.1 + i, p.2))
 | [], i => rfl
 | p :: l, i => by
  unfold mix;by_cases h : p.1 = q
  ·simp [h]
  ·rw [if_neg h, if_neg h, zdq l (i + 1), zdq l 1, Option.map_map];congr 1; funext x; simp; omega
theorem zlK (q : Int) : mget q ([] : List (Int × α)) = none := rfl
theorem zcb (q : Int) (p : Int × α) (l : List (Int × α)) : mget q (p :: l) = if p.1 = q then some p.2 else mget q l := by
 have e : mix q (p :: l) 0 = if p.1 = q then some (0, p.2) else mix q l 1 := rfl
 unfold mget;rw [e];by_cases h : p.1 = q
 ·simp [h]
 ·rw [if_neg h, if_neg h, zdq l 1, Option.map_map]; rfl
theorem zlL (q : Int) (x : α) : mput q x [] = [(q, x)] := rfl
theorem zlg (q : Int) (x : α) (p : Int × α) (l : List (Int × α)) : mput q x (p :: l) = if p.1 = q then (q, x) :: l else p :: mput q x l := by
 unfold mput;by_cases h : p.1 = q
 ·simp [mix, h]
 ·have e : mix q (p :: l) 0 = (mix q l 0).map (fun z => (z.1 + 1, z.2)) := by
   rw [show mix q (p :: l) 0 = mix q l 1 by simp [mix, h], zdq l 1]
  rw [e, if_neg h];cases mix q l 0 with
  | none => rfl
  | some z => rfl
theorem zeO (q q' : Int) (x : α) : ∀ l : List (Int × α), mget q (mput q' x l) = if q' = q then some x else mget q l
 | [] => by rw [zlL, zcb]
 | p :: l => by
  rw [zlg];by_cases h : p.1 = q'
  ·rw [if_pos h, zcb, zcb];by_cases h2 : q' = q
   ·simp [h2]
   ·rw [if_neg h2, if_neg h2, if_neg (by rw [h]; exact h2)]
  ·rw [if_neg h, zcb, zcb, zeO q q' x l];by_cases h2 : p.1 = q
   ·rw [if_pos h2, if_pos h2, if_neg (by omega)]
   ·rw [if_neg h2, if_neg h2]
end
end Go.Rse
