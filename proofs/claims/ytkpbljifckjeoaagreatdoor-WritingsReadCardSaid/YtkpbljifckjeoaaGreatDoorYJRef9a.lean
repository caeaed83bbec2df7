/-
  Plain.
-/
import Derived.Test.YtkpbljifckjeoaaGreatDoorYJDot9
set_option linter.unusedSimpArgs false
set_option linter.unusedVariables false
namespace Go.Rse
open Go Go.Proofs
section
theorem zjW (a : Int) : coll posI [a] = if 0 < a then [a] else [] := by
 unfold coll dl posI srtI;by_cases h : 0 < a
 ·simp only [h, if_true, List.filter_cons, decide_true, Bool.not_true, Bool.not_false, List.filter_nil, List.mergeSort_singleton];simp [Lib.compact, Lib.compactUpTo, Lib.keeps, List.range_succ]
 ·simp only [h, if_false, List.filter_cons, decide_false, Bool.not_true, Bool.not_false, List.filter_nil, List.mergeSort_nil];simp [Lib.compact, Lib.compactUpTo]
theorem srt2 {a v : Int} (h : a < v) : srtI [v, a] = [a, v] := by
 unfold srtI;have h1 : ¬ v <= a := by omega
 simp [List.mergeSort, List.MergeSort.Internal.splitInTwo, List.merge, h1]
theorem znH {v a : Int} (hv : 0 < v) (ha : a < v) : coll posI [v, a] = if 0 < a then [a, v] else [v] := by
 unfold coll;by_cases h : 0 < a
 ·have e : dl (fun v => !posI v) [v, a] = [v, a] := by simp [dl, posI, h, hv]
  rw [e, srt2 ha, if_pos h];have h2 : ¬ v = a := by omega
  have h3 : ¬ a = v := by omega
  simp [Lib.compact, Lib.compactUpTo, Lib.keeps, List.range_succ, h2, h3]
 ·have e : dl (fun v => !posI v) [v, a] = [v] := by simp [dl, posI, h, hv]
  rw [e, if_neg h];simp [srtI, Lib.compact, Lib.compactUpTo, Lib.keeps, List.range_succ]
theorem zsn (m : Mn) {v : Int} (h : 1 <= v) : 0 <= m.ab v /\ m.ab v < v := by
 unfold Mn.ab;cases e : (perfL m).find? fun k => decide (k < v) with
 | none => simp; omega
 | some k =>
  have h1 := List.find?_some e;have h2 := List.mem_of_find?_eq_some e;have h3 := (List.mem_filter.1 h2).1;simp at h1 h3 ⊢;omega
theorem p23 {m : Mn} {v : Int} (hM : ckM m = 0) : m.p v = 2 \/ m.p v = 3 := by
 have hO : m.Ok := by
  unfold ckM at hM; split at hM
  ·assumption
  ·omega
 obtain ⟨a, b, c, d⟩ := hO;unfold two3 at *
 unfold Mn.p;split
 ·assumption
 ·split
  ·assumption
  ·split
   ·assumption
   ·split
    ·assumption
    ·exact .inl rfl
theorem zic {m : Mn} {v : Int} (hM : ckM m = 0) (h1 : 1 <= v) (h2 : v <= 8) : ckMV m v = 0 := by
 have hO : m.Ok := by
  unfold ckM at hM; split at hM
  ·assumption
  ·omega
 unfold ckMV; rw [if_pos hO, if_pos ⟨h1, h2⟩]
theorem zkM {m : Mn} {v : Int} (h1 : 1 <= v) : 0 <= m.aV v /\ m.aV v < v := by
 have := zsn m h1;unfold Mn.aV;split
 ·exact this
 ·omega
def mngR (m : Mn) (s : Sg) : List Int :=
 if s.Kind = 2 then [m.aV s.Value] else if s.Color = true then [0] else if m.p s.Value = 2 /\ m.aV s.Value = 0 then [0] else if m.p s.Value = 2 then [0, m.aV s.Value] else if m.aV s.Value = 0 then [s.Value] else [m.aV s.Value, s.Value]
theorem znI {m : Mn} {s : Sg} (hM : ckM m = 0) (h1 : 1 <= s.Value) (h2 : s.Value <= 8) (hz : ¬ (s.Kind = 2 /\ m.aV s.Value = 0)) : mngs m s = mngR m s := by
 have ha := zkM (m := m) h1;have hp := p23 (m := m) (v := s.Value) hM;have hpV : m.pV s.Value = m.p s.Value := by unfold Mn.pV; rw [if_pos (zic hM h1 h2)]
 unfold mngs mngR;rw [hpV, zjW];by_cases hK : s.Kind = 2
 ·have : 0 < m.aV s.Value := by
   have : ¬ m.aV s.Value = 0 := fun h => hz ⟨hK, h⟩
   omega
  rw [if_pos hK, if_pos hK, if_pos this]
 ·rw [if_neg hK, if_neg hK];by_cases hC : s.Color = true
  ·rw [if_pos hC, if_pos hC]
  ·rw [if_neg hC, if_neg hC];rcases hp with hp | hp
   ·by_cases h0 : m.aV s.Value = 0
    ·simp [hp, h0]
    ·have h4 : 0 < m.aV s.Value := by omega
     simp [hp, h0, h4]
   ·rw [znH (by omega) ha.2];by_cases h0 : m.aV s.Value = 0
    ·simp [hp, h0]
    ·have h4 : 0 < m.aV s.Value := by omega
     simp [hp, h0, h4]
theorem zmL {m : Mn} {s : Sg} (hM : ckM m = 0) (h1 : 1 <= s.Value) (h2 : s.Value <= 8) : (mngs m s).length = 0 ↔ (s.Kind = 2 /\ m.aV s.Value = 0) := by
 constructor
 ·intro h;refine Classical.byContradiction fun hz => ?_
  rw [znI hM h1 h2 hz] at h;unfold mngR at h;split at h
  ·simp at h
  ·split at h
   ·simp at h
   ·split at h
    ·simp at h
    ·split at h
     ·simp at h
     ·split at h <;> simp at h
 ·rintro ⟨hK, h0⟩
  unfold mngs;rw [if_pos hK, zjW, if_neg (by omega)]; rfl
theorem zpD {m : Mn} {l : List Sg} {k : Nat} {s : Sg} (h0 : sgF m l k s = 0) (hK : s.Kind ≠ 3) : (s.Kind = 1 \/ s.Kind = 2) /\ 1 <= s.Value /\ s.Value <= 8 := by
 unfold sgF at h0;by_cases h : s.Kind = 1 \/ s.Kind = 2
 ·rw [if_pos h] at h0;refine ⟨h, ?_⟩;by_cases hv : 1 <= s.Value /\ s.Value <= 8
  ·exact hv
  ·rw [if_neg hv] at h0; simp at h0
 ·rw [if_neg h, if_neg hK] at h0; simp at h0
theorem zgS {m : Mn} {l : List Sg} (h : ckD m l = 0) : ckM m = 0 /\ zab m l 0 l = 0 := by
 unfold ckD at h;by_cases hM : ckM m = 0
 ·rw [if_pos hM] at h; exact ⟨hM, h⟩
 ·rw [if_neg hM] at h; exact absurd h hM
theorem zso {m : Mn} {l : List Sg} (h : ckD m l = 0) {j : Nat} {s p : Sg} (hs : l[j + 1]? = some s) (h3 : s.Kind = 3) (hp : l[j]? = some p) :
 p.Kind ≠ 3 /\ (p.Kind = 1 \/ p.Kind = 2) /\ 1 <= p.Value /\ p.Value <= 8 /\ ¬ (p.Kind = 2 /\ m.aV p.Value = 0) /\ mngs m p = mngR m p := by
 obtain ⟨hM, hF⟩ := zgS h;have hall := (zaI hF l.length (Nat.le_refl _)).2;have h0 := hall (j + 1) s (List.getElem?_eq_some_iff.1 hs).1 hs;unfold sgF at h0;rw [if_neg (by omega), if_pos h3] at h0;simp only [hp] at h0;have hk : ¬ (p.Kind = 3 \/ (mngs m p).length = 0) := fun h => by rw [if_pos h] at h0; simp at h0
 have hk3 : p.Kind ≠ 3 := fun h => hk (.inl h)
 obtain ⟨h5, h1, h2⟩ := zpD (hall j p (List.getElem?_eq_some_iff.1 hp).1 hp) hk3;have hz : ¬ (p.Kind = 2 /\ m.aV p.Value = 0) := fun h => hk (.inr ((zmL hM h1 h2).2 h))
 exact ⟨hk3, h5, h1, h2, hz, znI hM h1 h2 hz⟩
theorem zgT {l : List Sg} : ∀ (k : Nat) (x : Int), x ∈ y5 l k -> ∃ (j : Nat) (s : Sg), x = (j : Int) /\ l[j]? = some s /\ s.Kind = 3
 | 0, x, hx => by simp [y5] at hx
 | k + 1, x, hx => by
  simp only [y5, List.mem_append] at hx;rcases hx with hx | hx
  ·exact zgT k x hx
  ·cases hs : l[k]? with
   | none => simp [hs] at hx
   | some s =>
    simp only [hs] at hx;split at hx
    ·rename_i hK; simp at hx; exact ⟨k, s, hx, hs, hK⟩
    ·simp at hx
theorem zpE {m : Mn} {l : List Sg} (h : ckD m l = 0) {x : Int} (hx : x ∈ y5 l l.length) : ∃ (j : Nat) (s p : Sg), x = ((j + 1 : Nat) : Int) /\ l[j + 1]? = some s /\ s.Kind = 3 /\ l[j]? = some p /\ zg1 l x = some p := by
 obtain ⟨j, s, p, h1, h2, h3⟩ := zdW (zgS h).2 l.length (Nat.le_refl _) x hx;obtain ⟨j', s', h4, h5, h6⟩ := zgT l.length x hx;have : j' = j + 1 := by omega
 subst this;rw [h2] at h5; injection h5 with h5; subst h5;refine ⟨j, s, p, h1, h2, h6, h3, ?_⟩;unfold zg1;rw [show (x - 1).toNat = j by omega]; exact h3
def ownV : List Int -> Int -> Int
 | [], _ => 0
 | x :: r, v => if x = 0 \/ x = v then x else ownV r v
def zgr (m : Mn) (l : List Sg) (i : Int) (p : Sg) : Int :=
 if (mngR m p).length = 1 then (mngR m p).headD 0 else if zeQ l i > p.Value then ownV (mngR m p) p.Value else m.aV p.Value
theorem znJ {m : Mn} {l : List Sg} {i : Int} {p : Sg} (hM : ckM m = 0) (h1 : 1 <= p.Value) (h2 : p.Value <= 8) (he : mngs m p = mngR m p) : zaz m l i p = zgr m l i p := by
 have ha := zkM (m := m) h1;have hp := p23 (m := m) (v := p.Value) hM;have hpV : m.pV p.Value = m.p p.Value := by unfold Mn.pV; rw [if_pos (zic hM h1 h2)]
 unfold zaz zgr;rw [he, hpV];unfold mngR;split
 ·simp
 ·split
  ·simp
  ·split
   ·simp
   ·split
    ·rename_i h3 h4 h5 h6;have : ¬ m.aV p.Value = 0 := fun h => h5 ⟨h6, h⟩
     by_cases hn : zeQ l i <= p.Value
     ·simp [hn]; omega
     ·simp [hn, ownV, h6]
    ·split
     ·simp
     ·rename_i h3 h4 h5 h6 h7;by_cases hn : zeQ l i <= p.Value
      ·simp [hn]; omega
      ·have h8 : m.p p.Value = 3 := by omega
       have h9 : ¬ m.aV p.Value = p.Value := by omega
       simp [hn, ownV, h8, h7, h9]
end
section
attribute [local irreducible] Pur yr yw Ex X Fn Imp LeV LeB FnO It yx
end
section
attribute [local irreducible] Pur yr yw Ex X Fn Imp LeV LeB FnO It yx
def zaD (m : Mn) (l : List Sg) (i : Int) : Bool := decide (m.Pro = 2) && zbe l i
def zR (m : Mn) (l : List Sg) : Nat -> List Int
 | 0 => []
 | k + 1 => if zaD m l (k : Int) = true then zR m l k ++ [(k : Int)] else zR m l k
def zak (m : Mn) (l : List Sg) : List Int := zR m l l.length
def zfW (m : Mn) (l : List Sg) : List (List AV) := (zak m l).map fun i => [iv i]
theorem zfB {m : Mn} {l : List Sg} {k : Nat} (h : zaD m l (k : Int) = true) : zR m l k ++ [(k : Int)] = zR m l (k + 1) := by
 conv => rhs; unfold zR
 rw [if_pos h]
theorem zgU {m : Mn} {l : List Sg} {k : Nat} (h : zaD m l (k : Int) = false) : zR m l k = zR m l (k + 1) := by
 conv => rhs; unfold zR
 rw [if_neg (by simp [h])]
theorem zid (m : Mn) (l : List Sg) : ∀ k, (zR m l k).length <= k
 | 0 => Nat.le_refl _
 | k + 1 => by
  unfold zR;have := zid m l k;split
  ·simp; omega
  ·omega
theorem zie {m : Mn} {l : List Sg} (k : Nat) : ∀ d, ∃ r, zR m l (k + d) = zR m l k ++ r
 | 0 => ⟨[], by simp⟩
 | d + 1 => by
  obtain ⟨r, hr⟩ := zie (m := m) (l := l) k d;show ∃ r, zR m l ((k + d) + 1) = _;by_cases h : zaD m l ((k + d : Nat) : Int) = true
  ·rw [← zfB h, hr]; exact ⟨r ++ [((k + d : Nat) : Int)], by simp⟩
  ·rw [← zgU (by simpa using h)]; exact ⟨r, hr⟩
theorem zmM {m : Mn} {l : List Sg} {k : Nat} (hk : k < l.length) (h : zaD m l (k : Int) = true) : (zfW m l)[(zR m l k).length]? = some [iv (k : Int)] := by
 obtain ⟨r, hr⟩ := zie (m := m) (l := l) (k + 1) (l.length - (k + 1));rw [show k + 1 + (l.length - (k + 1)) = l.length by omega, ← zfB h] at hr;unfold zfW zak;rw [hr]; simp
theorem zfC {m : Mn} {l : List Sg} {j : Nat} {zs : List AV} (h : (zfW m l)[j]? = some zs) : ∃ i, (zak m l)[j]? = some i /\ zs = [iv i] := by
 rw [zfW, List.getElem?_map] at h;cases hk : (zak m l)[j]? with
 | none => simp [hk] at h
 | some k => simp [hk] at h; exact ⟨k, rfl, h.symm⟩
attribute [local irreducible] zbe zR zak
theorem zgd (m : Mn) (l : List Sg) (hl : l.length <= 4000000000) : It Tryz.prog 204 [.ept (fun _ : Unit => [.sl sgE l]) () 0, .ept (fun _ : Unit => mnE m) () 0] (zfW m l) := by
 have hp0 : (zR m l 0).length = 0 := by unfold zR; rfl
 refine It.intro (ts := fun lY => [(0, .yv lY), (1, .ept (fun _ : Unit => [.sl sgE l]) () 0), (2, .ept (fun _ : Unit => mnE m) () 0)]) (n := 25) (by kernel_rfl) Tryz.func204 rfl Tryz.ntmps204 rfl (fun _ => rfl) (by simp) (fun g w d ds Y lY hY => ?_);refine gq ?_;refine yS (ι := Nat) (fun (k : Nat) => [(0, .yv lY), (1, .ept (fun _ : Unit => [.sl sgE l]) () 0), (2, .ept (fun _ : Unit => mnE m) () 0), (6, iv l.length), (7, iv (k : Int))]) (fun (k : Nat) => [(1000000, .yld (zR m l k).length true)]) (fun (k : Nat) => k <= l.length) (fun (k : Nat) => l.length - k) 0 (fun k hk => ?_);refine gd ?_ ?_<;>intro hc1
 ·apply yp;apply yl;apply X.block;apply yg;refine zm ?_;apply yl;have hcs : (decide (m.Pro = 2) = false) \/ (decide (m.Pro = 2) = true /\ zbe l (k : Int) = false) \/ (decide (m.Pro = 2) = true /\ zbe l (k : Int) = true) := by cases decide (m.Pro = 2) <;> cases zbe l (k : Int) <;> simp
  rcases hcs with hp | ⟨hp, hq⟩ | ⟨hp, hq⟩
  ·have hg3 : (decide (m.Pro = 2) == true) = false := by rw [hp]; rfl
   have hn : zaD m l (k : Int) = false := by unfold zaD; rw [hp]; rfl
   have hst := zgU hn;have hst2 := congrArg List.length hst.symm;apply ym;(iterate 4 refine ya ?_);(iterate 3 refine zaT ?_);(iterate 2 refine ya ?_);(iterate 4 refine zaT ?_);refine gd ?_ ?_<;>intro hc2
   ·exact absurd hc2 (by decide)
   refine gq ?_;refine yz (k + 1)
  ·have hg3 : (decide (m.Pro = 2) == true) = true := by rw [hp]; rfl
   have hg8 : (zbe l (k : Int) == true) = false := by rw [hq]; rfl
   have hn : zaD m l (k : Int) = false := by unfold zaD; rw [hp, hq]; rfl
   have hst := zgU hn;have hst2 := congrArg List.length hst.symm;apply ym;(iterate 4 refine ya ?_);iterate 2 refine zM ?_
   (refine zoB rfl rfl ?_ (zb6 rfl rfl rfl (LeL.refl _) (zeS l hl (k : Int) (by omega) (by omega))) rfl rfl ?_; iterate 1 (· first | exact hg3 | assumption | rfl | (simp_all; done) | omega))
   (iterate 2 refine ya ?_);(iterate 4 refine zaT ?_);refine gd ?_ ?_<;>intro hc3
   ·exact absurd hc3 (by decide)
   refine gq ?_;refine yz (k + 1)
  ·have hg3 : (decide (m.Pro = 2) == true) = true := by rw [hp]; rfl
   have hg8 : (zbe l (k : Int) == true) = true := by rw [hq]; rfl
   have hn : zaD m l (k : Int) = true := by unfold zaD; rw [hp, hq]; rfl
   have hst := zfB hn;have hst2 := congrArg List.length hst;have hq1 := zmM (by omega) hn;rw [List.length_append] at hst2;apply ym;(iterate 4 refine ya ?_);iterate 2 refine zM ?_
   (refine zoB rfl rfl ?_ (zb6 rfl rfl rfl (LeL.refl _) (zeS l hl (k : Int) (by omega) (by omega))) rfl rfl ?_; iterate 1 (· first | exact hg3 | assumption | rfl | (simp_all; done) | omega))
   (iterate 2 refine ya ?_);(iterate 2 refine zM ?_);refine zbl hY rfl rfl rfl (fun _ => ⟨_, _, rfl, rfl, rfl, LeL.refl _, rfl, rfl, hq1, fun b => ?_⟩) (fun h => absurd (h.symm.trans hg8) (by decide));refine zM ?_;refine gd ?_ ?_<;>intro hc4
   ·subst hc4;refine X.ret ?_;refine ⟨.inr rfl, _, false, rfl, fun hb => by simp at hb⟩
   subst hc4;have hst3 : (zR m l (k + 1)).length = (zR m l k).length + 1 := hst2.symm;clear hst2;refine gq ?_;refine yz (k + 1)
 ·have hkl : k = l.length := by omega
  subst hkl;apply X.exit;refine ⟨.inl rfl, _, true, rfl, fun _ => by unfold zfW zak; rw [List.length_map]⟩
theorem zhU (m : Mn) (l : List Sg) : Fn Tryz.prog 168 [mnA m, sgsA l] (.fn 204 [.ept (fun _ : Unit => [.sl sgE l]) () 0, .ept (fun _ : Unit => mnE m) () 0]) := by
 refine Fn.go Tryz.func168 Tryz.ntmps168 (fun g w d => ?_);refine gq ?_;refine zbB ?_;refine ya ?_;apply yI;refine zm ?_;refine X.ret ?_;refine RetQ.imp ((yR (k := 2) rfl rfl).trans (yR (k := 3) rfl rfl)) ?_;refine gq ?_;all_goals (first | rfl | (simp_all; done))
end
section
attribute [local irreducible] Pur yr yw Ex X Fn Imp LeV LeB FnO It yx
theorem zif (m : Mn) (l : List Sg) : (zak m l).length <= l.length := by unfold zak; exact zid m l _
theorem zmN {α : Type} {a : List α} {j : Nat} {x : α} (h : a[j]? = some x) : a.take j ++ [x] = a.take (j + 1) := by
 rw [List.take_add_one, h]; rfl
attribute [local irreducible] zbe zR zak zaD ckD
theorem zhV (m : Mn) (z : List Sg) (hl : z.length <= 1000) : FnO Tryz.prog 124 [mnA m, sgsA z] [] [] (.tup [.own 39, iv (ckD m z)]) [(39, .row intE (if ckD m z = 0 then zak m z else []) 3 1)] := by
 refine FnO.intro (ts := [(0, mnA m), (1, sgsA z)]) (rv := [.tmp 4, .tmp 5]) (n := 24) (cs := []) (by kernel_rfl) Tryz.func124 rfl Tryz.ntmps124 rfl rfl (by simp) rfl rfl rfl rfl (fun g w d vh => ?_);refine gq ?_;refine yb (zal m z hl) ?_;refine gd ?_ ?_<;>intro hc1
 ·have hE : [] = (if ckD m z = 0 then zak m z else []) := by rw [if_neg hc1]
  apply yg;refine zh ?_;refine X.ret ?_;refine zmh.imp (yL intE 3 1 4 39 rfl rfl) ?_;refine zmh.mk (ts := [(4, .own 39), (5, iv (ckD m z))]) (.inr rfl) (ye) (.many (by decide) (.cons (.tmp rfl (LeV.eq rfl)) (.cons (.tmp rfl (LeV.eq rfl)) .nil)))
 have hpl := zif m z;apply yp;apply yg;refine zB ?_;apply Ex.nil;iterate 2 apply yl
 refine X.imp (zaM intE 3 1 7 39 59 rfl rfl) ?_;refine gq ?_;refine yb (zhU m z) ?_;apply Ex.nil;apply X.block;have ht0 : [] = (zak m z).take 0 := by simp
 have htl : (zak m z).take (zfW m z).length = (if ckD m z = 0 then zak m z else []) := by
  rw [if_pos hc1]; unfold zfW; rw [List.length_map, List.take_length]
 refine X.range (sl := [7]) (fun j => ([.ptr 7 0 0 0], [(1000001, .hold vh []), (7, .box [.own 39] 59), (39, .row intE ((zak m z).take j) 3 1)])) (fun j => True) 900001 900002 rfl rfl (by decide) (fun j zs hj => by obtain ⟨i, _, rfl⟩ := zfC hj; rfl) (zgd m z (by omega)) trivial rfl rfl (by decide) (Nat.zero_le _) (by simp) (fun j zs hj => by obtain ⟨i, _, rfl⟩ := zfC hj; rfl) (fun _ => rfl) rfl rfl (fun l o us => ye) (trivial) (fun j zs hj hJ l ready busy rb vs g w hb hyB => ?_) (fun hJ => ?_)
 ·obtain ⟨i, hi, rfl⟩ := zfC hj;have hst := zmN hi;have hlt : ((zak m z).take j).length <= 1000 := by simp; omega
  apply ym;refine yu ?_;refine ⟨rfl, rfl, ?_⟩;refine gq ?_;refine yJ intE [_] ?_;iterate 2 refine Ex.mo ?_
  apply Ex.nil;refine ⟨[.ptr 7 0 0 0], [(1000001, .hold vh []), (7, .box [.own 39] 59), (39, .row intE ((zak m z).take (j + 1)) 3 1)], ye, rfl, trivial⟩
 apply yg;refine zh ?_;refine X.ret ?_;refine zmh.mk (ts := [(4, .own 39), (5, iv (ckD m z))]) (.inr rfl) (ye) (.many (by decide) (.cons (.tmp rfl (LeV.eq rfl)) (.cons (.tmp rfl (LeV.eq rfl)) .nil)))
end
section
attribute [local irreducible] Pur yr yw Ex X Fn Imp LeV LeB FnO It yx
attribute [local irreducible] zbe zR zak zaD ckD
def prL (m : Mn) (l : List Sg) : List Int := if ckD m l = 0 then zak m l else []
def twos (n : Nat) : List Int := List.replicate n 2
theorem zmO (n : Nat) : twos n ++ [2] = twos (n + 1) := by unfold twos; rw [List.replicate_succ']
theorem zdt (n : Nat) : (twos n).length = n := by unfold twos; simp
theorem zi2 (m : Mn) (l : List Sg) : (prL m l).length <= l.length := by
 unfold prL; split
 ·exact zif m l
 ·simp
attribute [local irreducible] prL twos
end
section
attribute [local irreducible] Pur yr yw Ex X Fn Imp LeV LeB FnO It yx
attribute [local irreducible] zbe zR zak zaD ckD
theorem zdu (m : Mn) (l : List Sg) (hl : l.length <= 1000) : FnO Tryz.prog 124 [mnA m, sgsA l] [] [] (.tup [.own 39, iv (ckD m l)]) [(39, .row intE (prL m l) 3 1)] := zhV m l hl
def ruK (p : List Int) (k : Nat) : List Int := twos k ++ p.drop k
theorem zpF {p : List Int} {k : Nat} (h : k <= p.length) : (ruK p k).length = p.length := by unfold ruK; rw [List.length_append, zdt, List.length_drop]; omega
theorem zpG {p : List Int} {k : Nat} (h : k < p.length) : (ruK p k).set k 2 = ruK p (k + 1) := by
 unfold ruK;rw [List.set_append_right _ _ (by rw [zdt]; omega), zdt, Nat.sub_self, ← zmO, List.append_assoc];congr 1;rw [List.drop_eq_getElem_cons h]; rfl
theorem zuu (p : List Int) : p = ruK p 0 := by unfold ruK twos; rfl
theorem zuv (p : List Int) : ruK p p.length = twos p.length := by unfold ruK; rw [List.drop_length, List.append_nil]
theorem znK {m : Mn} {l : List Sg} (h : ¬ ckD m l = 0) : prL m l = [] := by unfold prL; rw [if_neg h]
attribute [local irreducible] prL twos ruK
theorem zi3 (m : Mn) (l : List Sg) (hl : l.length <= 1000) : Fn Tryz.prog 92 [mnA m, sgsA l] (.tup [yf (twos (prL m l).length), iv (ckD m l)]) := by
 have hq0 := zuu (prL m l);have hqe := zuv (prL m l);have hpl := zi2 m l;refine Fn.go Tryz.func92 Tryz.ntmps92 (fun g w d => ?_);refine gq ?_;refine zaF [(39, 39)] (zdu m l hl) ?_;refine gd ?_ ?_<;>intro hc1
 ·have ht : [] = twos (prL m l).length := by rw [znK hc1]; unfold twos; rfl
  apply yg;refine zh ?_;refine X.ret ?_;refine RetQ.imp (ye (ts := [(4, yf []), (5, iv (ckD m l))]) (hs := [])) ?_;refine yi ?_ ?_;all_goals (first | rfl | exact congrArg yf ht | exact congrArg yf hqe | exact congrArg (AV.int .i64) hc1.symm)
 refine gq ?_;refine yS (ι := Nat) (fun (k : Nat) => [(6, .own 39), (7, iv 0), (19, iv ((prL m l).length : Int)), (20, iv (k : Int))]) (fun (k : Nat) => [(39, .row intE (ruK (prL m l) k) 3 1)]) (fun (k : Nat) => k <= (prL m l).length) (fun (k : Nat) => (prL m l).length - k) 0 (fun k hk => ?_);refine gd ?_ ?_<;>intro hc2
 ·have hlen := zpF (p := prL m l) (k := k) (by omega);have hst := zpG (p := prL m l) (k := k) (by omega);refine gq ?_;refine yz (k + 1)
 ·have hkl : k = (prL m l).length := by omega
  subst hkl;apply X.exit;apply yg;refine zh ?_;refine X.ret ?_;refine RetQ.imp (Imp.freeze (k := 39) rfl) ?_;refine yi ?_ ?_;all_goals (first | rfl | exact congrArg yf ht | exact congrArg yf hqe | exact congrArg (AV.int .i64) hc1.symm)
end
section
attribute [local irreducible] Pur yr yw Ex X Fn Imp LeV LeB FnO It yx
attribute [local irreducible] zbe zR zak zaD ckD
attribute [local irreducible] prL andI
end
section
section
variable {α : Type}
theorem zdU {q : Int} : ∀ (l : List (Int × α)) (i : Nat), mix q l i = (mix q l 0).map (fun p => (p.1 + i, p.2))
 | [], i => rfl
 | p :: l, i => by
  unfold mix;by_cases h : p.1 = q
  ·simp [h]
  ·rw [if_neg h, if_neg h, zdU l (i + 1), zdU l 1, Option.map_map];congr 1; funext x; simp; omega
theorem znL (q : Int) : mget q ([] : List (Int × α)) = none := rfl
theorem zcB (q : Int) (p : Int × α) (l : List (Int × α)) : mget q (p :: l) = if p.1 = q then some p.2 else mget q l := by
 have e : mix q (p :: l) 0 = if p.1 = q then some (0, p.2) else mix q l 1 := rfl
 unfold mget;rw [e];by_cases h : p.1 = q
 ·simp [h]
 ·rw [if_neg h, if_neg h, zdU l 1, Option.map_map]; rfl
theorem znM (q : Int) (x : α) : mput q x [] = [(q, x)] := rfl
theorem zmP (q : Int) (x : α) (p : Int × α) (l : List (Int × α)) : mput q x (p :: l) = if p.1 = q then (q, x) :: l else p :: mput q x l := by
 unfold mput;by_cases h : p.1 = q
 ·simp [mix, h]
 ·have e : mix q (p :: l) 0 = (mix q l 0).map (fun z => (z.1 + 1, z.2)) := by
   rw [show mix q (p :: l) 0 = mix q l 1 by simp [mix, h], zdU l 1]
  rw [e, if_neg h];cases mix q l 0 with
  | none => rfl
  | some z => rfl
theorem zfD (q q' : Int) (x : α) : ∀ l : List (Int × α), mget q (mput q' x l) = if q' = q then some x else mget q l
 | [] => by rw [znM, zcB]
 | p :: l => by
  rw [zmP];by_cases h : p.1 = q'
  ·rw [if_pos h, zcB, zcB];by_cases h2 : q' = q
   ·simp [h2]
   ·rw [if_neg h2, if_neg h2, if_neg (by rw [h]; exact h2)]
  ·rw [if_neg h, zcB, zcB, zfD q q' x l];by_cases h2 : p.1 = q
   ·rw [if_pos h2, if_pos h2, if_neg (by omega)]
   ·rw [if_neg h2, if_neg h2]
end
end
section
def zbw (p mi : List Int) : Nat -> List (Int × Tm)
 | 0 => []
 | k + 1 => if mi[k]? = some 2 then mput (p.getD k 0 + 1) ⟨1, 2⟩ (mput (p.getD k 0) ⟨3, 2⟩ (zbw p mi k)) else zbw p mi k
theorem zgs {α : Type} {l : List α} {k : Nat} {x d : α} (h : l[k]? = some x) : l.getD k d = x := by
 rw [List.getD_eq_getElem?_getD, h]; rfl
theorem zmQ {p mi : List Int} {k : Nat} {x y : Int} (hx : p[k]? = some x) (hy : mi[k]? = some y) (h : y = 2) : mput (x + 1) ⟨1, 2⟩ (mput x ⟨3, 2⟩ (zbw p mi k)) = zbw p mi (k + 1) := by
 conv => rhs; unfold zbw
 rw [if_pos (by rw [hy, h]), zgs hx]
theorem zmR {p mi : List Int} {k : Nat} {y : Int} (hy : mi[k]? = some y) (h : y = 1) : zbw p mi k = zbw p mi (k + 1) := by
 conv => rhs; unfold zbw
 rw [if_neg (by rw [hy, h]; simp)]
def bsT (m : Mn) (s : Sg) : Tm := if clr s = true then durT m s.Value else yq m s.Value
theorem zuw {m : Mn} {s : Sg} (h : clr s = true) : durT m s.Value = bsT m s := by unfold bsT; rw [if_pos h]
theorem zux {m : Mn} {s : Sg} (h : clr s = false) : yq m s.Value = bsT m s := by unfold bsT; rw [if_neg (by rw [h]; decide)]
def dvK (m : Mn) (l : List Sg) (M : List (Int × Tm)) : Nat -> List Tm
 | 0 => []
 | k + 1 => match l[k]? with
  | some s => if s.Kind = 3 then dvK m l M k else dvK m l M k ++ [(mget (k : Int) M).getD (bsT m s)]
  | none => dvK m l M k
theorem zi4 {m : Mn} {l : List Sg} {M : List (Int × Tm)} {k : Nat} {s : Sg} (hs : l[k]? = some s) (h : s.Kind = 3) : dvK m l M k = dvK m l M (k + 1) := by
 conv => rhs; unfold dvK
 rw [hs]; simp only [if_pos h]
theorem zi5 {m : Mn} {l : List Sg} {M : List (Int × Tm)} {k : Nat} {s : Sg} (hs : l[k]? = some s) (h : ¬ s.Kind = 3) : dvK m l M k ++ [(mget (k : Int) M).getD (bsT m s)] = dvK m l M (k + 1) := by
 conv => rhs; unfold dvK
 rw [hs]; simp only [if_neg h]
theorem zlG (m : Mn) (l : List Sg) (M : List (Int × Tm)) : ∀ k, (dvK m l M k).length <= k
 | 0 => Nat.le_refl _
 | k + 1 => by
  have := zlG m l M k;unfold dvK;split
  ·split
   ·omega
   ·simp; omega
  ·omega
theorem zsp {M : List (Int × Tm)} {i : Int} {b z : Tm} (h : (mget i M).isSome = true) : (mget i M).getD z = (mget i M).getD b := by
 cases hm : mget i M with
 | none => rw [hm] at h; simp at h
 | some x => rfl
theorem znN {M : List (Int × Tm)} {i : Int} {b : Tm} (h : (mget i M).isSome = false) : b = (mget i M).getD b := by
 cases hm : mget i M with
 | none => rfl
 | some x => rw [hm] at h; simp at h
def mnOk (mi : List Int) : Bool := mi.all fun x => decide (x = 1) || decide (x = 2)
def duE (m : Mn) (l : List Sg) (mi : List Int) : Int := if ckD m l = 0 then (if mi.length = (prL m l).length /\ mnOk mi = true then 0 else 2) else ckD m l
def duM (m : Mn) (l : List Sg) (mi : List Int) : List (Int × Tm) := zbw (prL m l) mi (prL m l).length
def duV (m : Mn) (l : List Sg) (mi : List Int) : List Tm := if duE m l mi = 0 then dvK m l (duM m l mi) l.length else []
theorem znO {mi : List Int} {k : Nat} {y : Int} (hy : mi[k]? = some y) (h1 : ¬ y = 1) (h2 : ¬ y = 2) : mnOk mi = false := by
 cases h : mnOk mi with
 | false => rfl
 | true =>
  unfold mnOk at h;have := List.all_eq_true.1 h y (List.mem_of_getElem? hy);simp [h1, h2] at this
theorem znP {mi : List Int} (h : ∀ (j : Nat) y, j < mi.length -> mi[j]? = some y -> y = 1 \/ y = 2) : mnOk mi = true := by
 unfold mnOk;rw [List.all_eq_true];intro y hy;obtain ⟨j, hj⟩ := List.mem_iff_getElem?.1 hy;have := h j y (List.getElem?_eq_some_iff.1 hj).1 hj;simp [this]
def mnK (mi : List Int) (k : Nat) : Prop := ∀ (j : Nat) y, j < k -> mi[j]? = some y -> y = 1 \/ y = 2
theorem zuy (mi : List Int) : mnK mi 0 := fun j y h => by omega
theorem zrl {mi : List Int} {k : Nat} {y : Int} (h : mnK mi k) (hy : mi[k]? = some y) (hv : y = 1 \/ y = 2) : mnK mi (k + 1) := fun j z hj hz => by
 rcases Nat.lt_or_ge j k with h1 | h1
 ·exact h j z h1 hz
 ·have : j = k := by omega
  subst this; rw [hy] at hz; injection hz with hz; subst hz; exact hv
theorem zsq {mi : List Int} (h : mnK mi mi.length) : mnOk mi = true := znP fun j y hj hy => h j y hj hy
theorem zuz {m : Mn} {l : List Sg} {mi : List Int} (h : ¬ ckD m l = 0) : ckD m l = duE m l mi := by unfold duE; rw [if_neg h]
theorem zuA {m : Mn} {l : List Sg} {mi : List Int} (h : ckD m l = 0) (h2 : ¬ mi.length = (prL m l).length) : 2 = duE m l mi := by unfold duE; rw [if_pos h, if_neg (fun e => h2 e.1)]
theorem zuB {m : Mn} {l : List Sg} {mi : List Int} (h : ckD m l = 0) (h2 : mnOk mi = false) : 2 = duE m l mi := by unfold duE; rw [if_pos h, if_neg (fun e => by rw [h2] at e; exact absurd e.2 (by decide))]
theorem zuC {m : Mn} {l : List Sg} {mi : List Int} (h : ckD m l = 0) (h1 : mi.length = (prL m l).length) (h2 : mnOk mi = true) : 0 = duE m l mi := by unfold duE; rw [if_pos h, if_pos ⟨h1, h2⟩]
theorem znQ {m : Mn} {l : List Sg} {mi : List Int} {e : Int} (h : e = duE m l mi) (he : ¬ e = 0) : [] = duV m l mi := by unfold duV; rw [if_neg (by rw [← h]; exact he)]
theorem zuD {m : Mn} {l : List Sg} {mi : List Int} (h : 0 = duE m l mi) : dvK m l (duM m l mi) l.length = duV m l mi := by unfold duV; rw [if_pos h.symm]
theorem zgV {m : Mn} {l : List Sg} (h : ckD m l = 0) {k : Nat} {s : Sg} (hs : l[k]? = some s) (h3 : ¬ s.Kind = 3) : ckM m = 0 /\ 1 <= s.Value /\ s.Value <= 8 := by
 have hm : ckM m = 0 := by
  unfold ckD at h; split at h
  ·assumption
  ·exact absurd h (by assumption)
 have hf : zab m l 0 l = 0 := by unfold ckD at h; rw [if_pos hm] at h; exact h
 have hk : k < l.length := (List.getElem?_eq_some_iff.1 hs).1;have hF := (zaI hf (k + 1) (by omega)).2 k s (by omega) hs;unfold sgF at hF;refine ⟨hm, ?_⟩;split at hF
 ·split at hF
  ·assumption
  ·omega
 ·first | omega | (rw [if_neg h3] at hF; omega) | (split at hF <;> first | omega | contradiction)
theorem zgW {m : Mn} {l : List Sg} : ∀ (k : Nat) (x : Int), x ∈ zR m l k -> 0 <= x /\ x < (k : Int)
 | 0, x, h => by unfold zR at h; simp at h
 | k + 1, x, h => by
  unfold zR at h;split at h
  ·rcases List.mem_append.1 h with h | h
   ·have := zgW k x h; omega
   ·simp at h; omega
  ·have := zgW k x h; omega
theorem zsr {m : Mn} {l : List Sg} {k : Nat} {x : Int} (h : (prL m l)[k]? = some x) : 0 <= x /\ x < (l.length : Int) := by
 unfold prL at h;split at h
 ·unfold zak at h; exact zgW _ x (List.mem_of_getElem? h)
 ·simp at h
end
end Go.Rse
