/-
  Walks.
-/
import Derived.Test.YtkpbljifckjeoaaGreatDoorYJSpell1
set_option linter.unusedSimpArgs false
set_option linter.unusedVariables false
namespace Go.Rse
open Go Go.Proofs
section
attribute [local irreducible] Pur yr yw Ex X Fn Imp LeV LeB FnO It yx
def fidx (p : Int -> Bool) (l : List Int) : Int := if l.findIdx p < l.length then (l.findIdx p : Int) else -1
theorem zjY {p : Int -> Bool} {l : List Int} {k : Nat} {v : Int} (hv : l[k]? = some v) (hp : p v = true) (hJ : ∀ i u, i < k -> l[i]? = some u -> p u = false) : fidx p l = k := by
 have hk : k < l.length := (List.getElem?_eq_some_iff.1 hv).1;have hg : l[k] = v := (List.getElem?_eq_some_iff.1 hv).2;have : l.findIdx p = k := (List.findIdx_eq hk).2 ⟨by rw [hg]; exact hp, fun j hj => hJ j _ hj (lgg (by omega))⟩;unfold fidx; rw [this, if_pos hk]
theorem zig {p : Int -> Bool} {l : List Int} (hJ : ∀ i u, i < l.length -> l[i]? = some u -> p u = false) : fidx p l = -1 := by
 have : l.findIdx p = l.length := List.findIdx_eq_length.2 fun x hx => by
  obtain ⟨i, hi⟩ := List.mem_iff_getElem?.1 hx;simpa using hJ i x (List.getElem?_eq_some_iff.1 hi).1 hi
 unfold fidx; rw [if_neg (by omega)]
theorem zbP (l : List Int) (hl : l.length <= 4000000000) (fp : FuncId) (caps : List AV) (p : Int -> Bool) (hn : AV.nm.nmL caps = true) (hp : ∀ v, v ∈ l -> Fn Tryz.prog fp ([iv v] ++ caps) (.bool (p v))) : FnO Tryz.prog 137 [.own 2000000, .fn fp caps] [(2000000, .row intE l 3 1)] [2000000] (iv (fidx p l)) [(2000000, .row intE l 3 1)] := by
 refine FnO.intro (ts := [(0, .own 2000000), (1, .fn fp caps)]) (rv := [.tmp 4]) (n := 19) (cs := [.own 2000000]) (by kernel_rfl) Tryz.func137 rfl Tryz.ntmps137 rfl rfl (by simp) rfl rfl rfl rfl (fun g w d vs => ?_);refine gq ?_
 refine yS (ι := Nat) (fun (k : Nat) => [(0, .own 2000000), (1, .fn fp caps), (7, iv l.length), (8, iv k)]) (fun (k : Nat) => [(1000001, .hold vs [.own 2000000]), (2000000, .row intE l 3 1)]) (fun (k : Nat) => k <= l.length /\ ∀ i u, i < k -> l[i]? = some u -> p u = false) (fun (k : Nat) => l.length - k) 0 (fun k hk => ?_) (hJ := by
  exact ⟨by omega, fun i u h => absurd h (Nat.not_lt_zero i)⟩)
 obtain ⟨hk1, hk2⟩ := hk;refine gd ?_ ?_<;>intro hc1
 ·obtain ⟨v, hv⟩ : ∃ v, l[k]? = some v := ⟨_, lgg (by omega)⟩;have hv2 : l[(k : Int).toNat]? = some v := by simpa using hv
  apply yp;apply yl;apply X.block;apply yg;iterate 2 refine ya ?_
  apply yI;iterate 5 refine ya ?_
  refine Ex.call rfl rfl (by simpa [AV.nm.nmL, AV.nm] using hn) (hp v (List.mem_of_getElem? hv)) rfl ?_;refine gd ?_ ?_<;>intro hc2
  ·have he := zjY hv hc2 hk2;apply yg;refine zm ?_;refine X.ret ?_;rw [he];refine zmh.mk (ts := [(4, iv k)]) (.inr rfl) (ye) (.one (.tmp rfl (LeV.eq rfl)))
  refine gq ?_
  refine yz (k + 1) (hJ := by
   refine ⟨by omega, fun i u hi hu => ?_⟩;rcases Nat.lt_succ_iff_lt_or_eq.1 hi with h | h
   ·exact hk2 i u h hu
   ·subst h; rw [hv] at hu; injection hu with hu; subst hu; exact hc2)
 ·have he := zig (p := p) (l := l) fun i u hi => hk2 i u (by omega)
  apply X.exit;apply yg;refine yu ?_;refine X.ret ?_;rw [he];refine zmh.mk (ts := [(4, iv (-1))]) (.inr rfl) (ye) (.one (.tmp rfl (LeV.eq rfl)))
theorem zss {L : List Nat} {x : AV} (h : x.nm = true) : ok1 L x = true := by
 cases x <;> first | exact h | (simp [AV.nm] at h)
theorem zpK {μ : List (Nat × Nat)} {x : AV} (h : x.nm = true) : ren1 μ x = x := by
 cases x <;> first | rfl | (simp [AV.nm] at h)
theorem zlH {cs : List AV} (h : AV.nm.nmL cs = true) : ∀ x ∈ cs, x.nm = true := fun x hx => by
 obtain ⟨j, hj⟩ := List.mem_iff_getElem?.1 hx;exact zo h hj
theorem zuE {L : List Nat} {f : FuncId} {caps : List AV} (h : AV.nm.nmL caps = true) : AV.okN L (.fn f caps) = true :=
 List.all_eq_true.2 fun x hx => zss (zlH h x hx)
theorem zst {μ : List (Nat × Nat)} {f : FuncId} {caps : List AV} (h : AV.nm.nmL caps = true) : AV.fn f caps = AV.ren μ (.fn f caps) := by
 have : caps.map (ren1 μ) = caps := by
  have h2 : caps.map (ren1 μ) = caps.map id := List.map_congr_left fun x hx => zpK (zlH h x hx)
  simpa using h2
 show AV.fn f caps = AV.fn f (caps.map (ren1 μ));rw [this]
def dl (p : Int -> Bool) (l : List Int) : List Int := l.filter fun v => !p v
theorem zi7 {p : Int -> Bool} {l : List Int} {k : Nat} {v : Int} (h : l[k]? = some v) : dl p (l.take (k + 1)) = dl p (l.take k) ++ (if p v = true then [] else [v]) := by
 have : l.take (k + 1) = l.take k ++ [v] := by rw [List.take_add_one, h]; rfl
 rw [dl, this, List.filter_append];cases hp : p v <;> simp [dl, hp]
theorem zkN (p : Int -> Bool) (l : List Int) : (fidx p l = -1 /\ dl p l = l) \/ ∃ (k : Nat) (v : Int), fidx p l = (k : Int) /\ l[k]? = some v /\ p v = true /\ dl p (l.take k) = l.take k := by
 unfold fidx;split
 ·rename_i h;refine .inr ⟨l.findIdx p, l[l.findIdx p], rfl, lgg h, List.findIdx_getElem (w := h), ?_⟩;refine List.filter_eq_self.2 fun x hx => ?_
  obtain ⟨i, hi⟩ := List.mem_iff_getElem?.1 hx;rw [List.getElem?_take] at hi;split at hi
  ·rename_i hlt;have := List.not_of_lt_findIdx hlt;have hg : l[i] = x := (List.getElem?_eq_some_iff.1 hi).2;rw [hg] at this;simpa using this
  ·simp at hi
 ·rename_i h;refine .inl ⟨rfl, List.filter_eq_self.2 fun x hx => ?_⟩;have h2 : l.findIdx p = l.length := Nat.le_antisymm List.findIdx_le_length (by omega);have := (List.findIdx_eq_length.1 h2) x hx;simpa using this
theorem zbE (l : List Int) (hl : l.length <= 4000000000) (fp : FuncId) (caps : List AV) (p : Int -> Bool) (hn : AV.nm.nmL caps = true) (hp : ∀ v, v ∈ l -> Fn Tryz.prog fp ([iv v] ++ caps) (.bool (p v))) : FnO Tryz.prog 104 [.own 2000000, .fn fp caps] [(2000000, .row intE l 3 1)] [] (.own 2000000) [(2000000, .row intE (dl p l) 3 1)] := by
 have hcs := zkN p l;refine FnO.intro (ts := [(0, .own 2000000), (1, .fn fp caps)]) (rv := [.tmp 4]) (n := 42) (cs := []) (by kernel_rfl) Tryz.func104 rfl Tryz.ntmps104 rfl rfl (by simp) rfl rfl rfl rfl (fun g w d vs => ?_);apply yg;refine ya ?_;apply yI;iterate 2 refine ya ?_
 refine zaR [(2000000, 2000000)] (zbP l hl fp caps p hn hp) rfl rfl rfl (.cons (LeV.refl _) (.cons (LeV.eq (zst hn)) .nil)) (by simp only [List.all_cons, List.all_nil, zuE hn, Bool.and_true]; rfl) rfl ⟨⟨_, _, rfl, rfl, LeB.refl _, rfl⟩, trivial⟩ rfl rfl rfl rfl ?_;refine gd ?_ ?_<;>intro hc1
 ·apply yg;refine zm ?_;refine X.ret ?_;have he := (hcs.resolve_right (fun ⟨k, _, h, _⟩ => by omega)).2;have hrow1 : l = dl p l := he.symm;refine zmh.mk (ts := [(4, .own 2000000)]) (.inr rfl) (ye) (.one (.tmp rfl (LeV.eq rfl)))
 obtain ⟨k0, v0, hk0, hv0, hp0, hd0⟩ := hcs.resolve_left (fun h => by omega);have hlt0 : k0 < l.length := (List.getElem?_eq_some_iff.1 hv0).1;have hd1 : dl p (l.take (k0 + 1)) = l.take k0 := by rw [zi7 hv0, if_pos hp0, hd0, List.append_nil]
 have hl1 : (dl p (l.take (k0 + 1))).length = k0 := by rw [hd1, List.length_take]; omega
 have hrow0 : l = dl p (l.take (k0 + 1)) ++ l.drop (dl p (l.take (k0 + 1))).length := by rw [hl1, hd1, List.take_append_drop]
 refine gq ?_
 refine yS (ι := Nat) (fun (k : Nat) => [(0, .own 2000000), (1, .fn fp caps), (5, iv ((dl p (l.take k)).length : Int)), (6, iv (k : Int))]) (fun (k : Nat) => [(1000001, .hold vs []), (2000000, .row intE (dl p (l.take k) ++ l.drop (dl p (l.take k)).length) 3 1)]) (fun (k : Nat) => k <= l.length /\ (dl p (l.take k)).length < k) (fun (k : Nat) => l.length - k) (k0 + 1) (fun k hk => ?_) (hJ := by
  exact ⟨by omega, by omega⟩) (h0 := by
  refine Imp.of ⟨⟨_, rfl, LeV.refl _⟩, ⟨_, rfl, LeV.refl _⟩, ⟨_, rfl, LeV.eq (congrArg (AV.int .i64) (by omega))⟩, ⟨_, rfl, LeV.eq (congrArg (AV.int .i64) (by omega))⟩, trivial⟩ ⟨⟨_, rfl, LeB.refl _⟩, ⟨_, rfl, LeB.row hrow0⟩, trivial⟩)
 obtain ⟨hk1, hk2⟩ := hk;have hrl : (dl p (l.take k) ++ l.drop (dl p (l.take k)).length).length = l.length := by simp; omega
 refine gd ?_ ?_<;>intro hc2
 ·obtain ⟨v, hv⟩ : ∃ v, l[k]? = some v := ⟨_, lgg (by omega)⟩
  have hv2 : (dl p (l.take k) ++ l.drop (dl p (l.take k)).length)[(k : Int).toNat]? = some v := by
   rw [Int.toNat_natCast, List.getElem?_append_right (by omega), List.getElem?_drop, show (dl p (l.take k)).length + (k - (dl p (l.take k)).length) = k by omega]; exact hv
  apply yp;apply yl;apply X.block;apply yg;iterate 5 refine ya ?_
  apply yI;iterate 2 refine ya ?_
  refine Ex.call rfl rfl (by simpa [AV.nm.nmL, AV.nm] using hn) (hp v (List.mem_of_getElem? hv)) rfl ?_;refine gd ?_ ?_<;>intro hc3
  ·have hdk : dl p (l.take (k + 1)) = dl p (l.take k) ++ [v] := by rw [zi7 hv, if_neg (by simp [hc3])]
   have hdl : (dl p (l.take (k + 1))).length = (dl p (l.take k)).length + 1 := by rw [hdk]; simp
   have hrow2 : (dl p (l.take k) ++ l.drop (dl p (l.take k)).length).set (((dl p (l.take k)).length : Nat) : Int).toNat v = dl p (l.take (k + 1)) ++ l.drop (dl p (l.take (k + 1))).length := by
    rw [hdl, hdk, Int.toNat_natCast, List.set_append_right _ _ (Nat.le_refl _), Nat.sub_self];have h9 : (l.drop (dl p (l.take k)).length).set 0 v = v :: l.drop ((dl p (l.take k)).length + 1) := by rw [List.drop_eq_getElem_cons (show (dl p (l.take k)).length < l.length by omega)]; rfl
    rw [h9]; simp
   refine gq ?_
   refine yz (k + 1) (hJ := by
    refine ⟨by omega, ?_⟩;rw [hdl];omega)
  ·have hdk : dl p (l.take (k + 1)) = dl p (l.take k) := by rw [zi7 hv, if_pos (by simpa using hc3), List.append_nil]
   have hdl : (dl p (l.take (k + 1))).length = (dl p (l.take k)).length := by rw [hdk]
   have hrow2 : dl p (l.take k) ++ l.drop (dl p (l.take k)).length = dl p (l.take (k + 1)) ++ l.drop (dl p (l.take (k + 1))).length := by rw [hdk]
   refine gq ?_
   refine yz (k + 1) (hJ := by
    refine ⟨by omega, ?_⟩;rw [hdl];omega)
 ·have hkl : k = l.length := by omega
  subst hkl;have him : (((dl p (l.take l.length)).length : Nat) : Int).toNat + ((dl p (l.take l.length) ++ l.drop (dl p (l.take l.length)).length).length - (((dl p (l.take l.length)).length : Nat) : Int).toNat) = (dl p (l.take l.length) ++ l.drop (dl p (l.take l.length)).length).length := by rw [Int.toNat_natCast]; omega
  apply X.exit;apply yg;iterate 2 refine ya ?_
  refine zao (zI rfl rfl rfl sl59 ty3 (by omega) (by omega)) rfl ?_;refine z8 (zqf (0 : Int) rfl rfl (fun _ => rfl) (by decide) sl59 ti3 rfl rfl rfl him) ?_;refine gq ?_;refine z8 (zoK rfl rfl rfl sl59 ty3 (by omega) (by simp; omega) rfl) ?_;refine yu ?_;refine X.ret ?_
  have hfin : List.take (((dl p (l.take l.length)).length : Nat) : Int).toNat (List.take (((dl p (l.take l.length)).length : Nat) : Int).toNat (dl p (l.take l.length) ++ l.drop (dl p (l.take l.length)).length) ++ List.replicate ((dl p (l.take l.length) ++ l.drop (dl p (l.take l.length)).length).length - (((dl p (l.take l.length)).length : Nat) : Int).toNat) 0) = dl p l := by
   rw [Int.toNat_natCast, List.take_append_of_le_length (by simp), List.take_take, Nat.min_self, List.take_append_of_le_length (Nat.le_refl _), List.take_of_length_le (Nat.le_refl _), List.take_of_length_le (Nat.le_refl _)]
  refine zmh.mk (ts := [(4, .own 2000000)]) (.inr rfl) (ye) (.one (.tmp rfl (LeV.eq rfl)))
end
section
attribute [local irreducible] Pur yr yw Ex X Fn Imp LeV LeB FnO It yx
def coll (p : Int -> Bool) (l : List Int) : List Int := Lib.compact (srtI (dl (fun v => !p v) l))
theorem ze9 (p : Int -> Bool) (l : List Int) : (coll p l).length <= l.length := Nat.le_trans (Lib.compact_length_le _) (by rw [zfd]; exact List.length_filter_le _ _)
theorem zfX (p : Int -> Bool) (l : List Int) : (dl p l).length <= l.length := List.length_filter_le _ _
theorem zef (fp : FuncId) (p : Int -> Bool) (v : Int) (hp : Fn Tryz.prog fp [iv v] (.bool (p v))) : Fn Tryz.prog 106 [iv v, .ept (fun _ : Unit => [.fn fp []]) () 0] (.bool (!p v)) := by
 refine Fn.go Tryz.func106 Tryz.ntmps106 (fun g w d => ?_);refine gq ?_;refine yb hp ?_;refine gq ?_;all_goals (first | rfl | (simp_all; done))
theorem zaZ (l : List Int) (hl : l.length <= 4000000000) (fp : FuncId) (p : Int -> Bool) (hp : ∀ v, v ∈ l -> Fn Tryz.prog fp [iv v] (.bool (p v))) : Fn Tryz.prog 78 [yf l, .fn fp []] (yf (coll p l)) := by
 refine Fn.go Tryz.func78 Tryz.ntmps78 (fun g w d => ?_);apply yg;refine zbB ?_;refine ya ?_;apply yI;refine ya ?_;refine zaR [(5, 6)] (za1 l hl) rfl rfl rfl (LeL.refl _) rfl rfl trivial rfl rfl rfl rfl ?_;refine Ex.imp (yR (k := 3) rfl rfl) ?_;refine zao (zeL rfl) rfl ?_;refine zaR [(2000000, 6), (2000002, 8)] (zhC 2000002 (zbE l hl 106 [.ept (fun _ : Unit => [.fn fp []]) () 0] (fun v => !p v) rfl (fun v hv => zef fp p v (hp v hv))) rfl) rfl rfl rfl (LeL.refl _) rfl rfl ⟨⟨_, _, rfl, rfl, LeB.refl _, rfl⟩, trivial⟩ rfl rfl rfl rfl ?_;refine ya ?_;apply yI;refine ya ?_;refine zaR [(2000000, 8)] (zdl (dl (fun v => !p v) l) (Nat.le_trans (zfX _ _) hl)) rfl rfl rfl (LeL.refl _) rfl rfl ⟨⟨_, _, rfl, rfl, LeB.refl _, rfl⟩, trivial⟩ rfl rfl rfl rfl ?_;apply yI;refine ya ?_;refine zaR [(2000000, 8), (2000002, 12)] (zhC 2000002 (zco (srtI (dl (fun v => !p v) l)) (by rw [zfd]; exact Nat.le_trans (zfX _ _) hl)) rfl) rfl rfl rfl (LeL.refl _) rfl rfl ⟨⟨_, _, rfl, rfl, LeB.refl _, rfl⟩, trivial⟩ rfl rfl rfl rfl ?_;refine yu ?_;refine X.ret ?_;refine RetQ.imp (Imp.freeze (k := 12) rfl) ?_;refine gq ?_;all_goals (first | rfl | (simp_all; done))
def Mn.aV (m : Mn) (v : Int) : Int := if ckMV m v = 0 then m.ab v else 0
def Mn.pV (m : Mn) (v : Int) : Int := if ckMV m v = 0 then m.p v else 0
def posI (v : Int) : Bool := decide (0 < v)
def mngs (m : Mn) (s : Sg) : List Int :=
 if s.Kind = 2 then coll posI [m.aV s.Value] else if s.Color then [0] else if m.pV s.Value = 3 then coll posI [s.Value, m.aV s.Value] else 0 :: coll posI [m.aV s.Value]
theorem zbi (v : Int) : Fn Tryz.prog 77 [iv v] (.bool (posI v)) := by
 refine Fn.go Tryz.func77 Tryz.ntmps77 (fun g w d => ?_);refine gq ?_;all_goals (first | rfl | (simp_all; done))
theorem zdw (m : Mn) (s : Sg) : Fn Tryz.prog 61 [mnA m, sgA s] (yf (mngs m s)) := by
 refine Fn.go Tryz.func61 Tryz.ntmps61 (fun g w d => ?_);refine gq ?_;refine yb (zff m s.Value) ?_;refine gq ?_;refine yb (zcZ m s.Value) ?_;refine gd ?_ ?_<;>intro hc1
 ·refine gq ?_;refine yJ intE [_] ?_;refine ya ?_;refine Ex.imp (Imp.freeze (k := 29) rfl) ?_;refine Ex.call rfl rfl rfl (zaZ [m.aV s.Value] (by simp) _ posI (fun v _ => zbi v)) rfl ?_;refine gq ?_;all_goals (simp [mngs, hc1])
 refine gd ?_ ?_<;>intro hc2
 ·apply yg;refine yJ intE [_] ?_;refine yu ?_;refine X.ret ?_;refine RetQ.imp (Imp.freeze (k := 35) rfl) ?_;refine gq ?_;all_goals (simp [mngs, *]; rfl)
 refine gd ?_ ?_<;>intro hc3
 ·have hc4 : m.pV s.Value = 3 := hc3;refine gq ?_;refine yJ intE [_, _] ?_;refine ya ?_;refine Ex.imp (Imp.freeze (k := 42) rfl) ?_;refine Ex.call rfl rfl rfl (zaZ [s.Value, m.aV s.Value] (by simp) _ posI (fun v _ => zbi v)) rfl ?_;refine gq ?_;all_goals (simp [mngs, hc1, hc2, hc4])
 have hc4 : ¬ m.pV s.Value = 3 := hc3;have hcl : (coll posI [m.aV s.Value]).length <= 1 := ze9 _ _;refine gq ?_;refine yJ intE [_] ?_;refine gq ?_;refine yJ intE [_] ?_;refine ya ?_;refine Ex.imp (Imp.freeze (k := 47) rfl) ?_;refine Ex.call rfl rfl rfl (zaZ [m.aV s.Value] (by simp) _ posI (fun v _ => zbi v)) rfl ?_;refine Ex.mo ?_;refine yu ?_;refine X.ret ?_;refine RetQ.imp (Imp.freeze (k := 45) rfl) ?_;refine gq ?_;all_goals (simp [mngs, *]; rfl)
end
section
attribute [local irreducible] Pur yr yw Ex X Fn Imp LeV LeB FnO It yx
def y5 (l : List Sg) : Nat -> List Int
 | 0 => []
 | k + 1 => y5 l k ++ (match l[k]? with | some s => if s.Kind = 3 then [(k : Int)] else [] | none => [])
theorem zcC (l : List Sg) : ∀ k, (y5 l k).length <= k
 | 0 => Nat.le_refl _
 | k + 1 => by
  have := zcC l k;simp only [y5, List.length_append];split
  ·split <;> simp <;> omega
  ·simp; omega
theorem zg0 (l : List Sg) (hl : l.length <= 1000) : Fn Tryz.prog 123 [sgsA l] (yf (y5 l l.length)) := by
 refine Fn.go Tryz.func123 Tryz.ntmps123 (fun g w d => ?_);apply yg;refine ya ?_;apply yI;refine yu ?_;iterate 2 apply yl
 refine X.imp (yL intE 3 1 3 3 rfl rfl) ?_;refine gq ?_;refine yS (ι := Nat) (fun (k : Nat) => [(3, .own 3), (6, sgsA l), (7, iv l.length), (8, iv (k : Int))]) (fun (k : Nat) => [(3, .row intE (y5 l k) 3 1)]) (fun (k : Nat) => k <= l.length) (fun (k : Nat) => l.length - k) 0 (fun k hk => ?_);refine gd ?_ ?_<;>intro hc1
 ·obtain ⟨s, hs⟩ : ∃ s, l[k]? = some s := ⟨_, lgg (by omega)⟩;have hs2 : l[(k : Int).toNat]? = some s := by simpa using hs
  have hdl := zcC l k;refine gd ?_ ?_<;>intro hc2
  ·have hrow2 : y5 l k ++ [(k : Int)] = y5 l (k + 1) := by simp [y5, hs, hc2]
   refine gq ?_;refine yJ intE [_] ?_;refine gq ?_;refine yz (k + 1)
  ·have hrow2 : y5 l k = y5 l (k + 1) := by simp [y5, hs, hc2]
   refine gq ?_;refine yz (k + 1)
 ·have hk2 : k = l.length := by omega
  subst hk2;apply X.exit;apply yg;refine zm ?_;refine X.ret ?_;refine RetQ.imp (Imp.freeze (k := 3) rfl) ?_;refine gq ?_;all_goals (first | rfl | (simp_all; done))
end
section
attribute [local irreducible] Pur yr yw Ex X Fn Imp LeV LeB FnO It yx
def sgF (m : Mn) (l : List Sg) (k : Nat) (s : Sg) : Int :=
 if s.Kind = 1 \/ s.Kind = 2 then (if 1 <= s.Value /\ s.Value <= 8 then 0 else 2)
 else if s.Kind = 3 then (match k with | 0 => 13 | j + 1 => match l[j]? with | some p => if p.Kind = 3 \/ (mngs m p).length = 0 then 13 else 0 | none => 13)
 else 8
def zab (m : Mn) (l : List Sg) : Nat -> List Sg -> Int
 | _, [] => 0
 | k, s :: r => if sgF m l k s = 0 then zab m l (k + 1) r else sgF m l k s
def ckD (m : Mn) (l : List Sg) : Int := if ckM m = 0 then zab m l 0 l else ckM m
theorem zdV {m : Mn} {l : List Sg} {k : Nat} {s : Sg} (h : l[k]? = some s) (h0 : sgF m l k s = 0) : zab m l k (l.drop k) = zab m l (k + 1) (l.drop (k + 1)) := by
 have hk : k < l.length := (List.getElem?_eq_some_iff.1 h).1;rw [List.drop_eq_getElem_cons hk];have : l[k] = s := (List.getElem?_eq_some_iff.1 h).2;rw [this]; simp only [zab, h0, if_true]
theorem zbQ {m : Mn} {l : List Sg} {k : Nat} {s : Sg} (h : l[k]? = some s) (h0 : sgF m l k s ≠ 0) : zab m l k (l.drop k) = sgF m l k s := by
 have hk : k < l.length := (List.getElem?_eq_some_iff.1 h).1;rw [List.drop_eq_getElem_cons hk];have : l[k] = s := (List.getElem?_eq_some_iff.1 h).2;rw [this]; simp only [zab, if_neg h0]
theorem zlI {m : Mn} {l : List Sg} {k : Nat} {s : Sg} (hk : k < l.length) (h3 : s.Kind = 3) : sgF m l k s = if ((k : Int) = 0 \/ (l.getD ((k : Int) - 1).toNat default).Kind = 3) \/ ((mngs m (l.getD ((k : Int) - 1).toNat default)).length : Int) = 0 then 13 else 0 := by
 unfold sgF;rw [if_neg (by omega), if_pos h3];cases k with
 | zero => simp
 | succ j =>
  have e : (((j + 1 : Nat) : Int) - 1).toNat = j := by omega
  have hp : l[j]? = some (l.getD j default) := by rw [List.getD_eq_getElem?_getD, lgg (by omega)]; rfl
  rw [e]; simp only [hp];generalize l.getD j default = p;by_cases h1 : p.Kind = 3
  ·simp [h1]
  ·by_cases h2 : (mngs m p).length = 0
   ·rw [if_pos (.inr h2), if_pos (.inr (by omega))]
   ·rw [if_neg (by omega), if_neg (by omega)]
theorem zal (m : Mn) (l : List Sg) (hl : l.length <= 1000) : Fn Tryz.prog 43 [mnA m, sgsA l] (iv (ckD m l)) := by
 refine Fn.go Tryz.func43 Tryz.ntmps43 (fun g w d => ?_);refine gq ?_;refine yb (zat m) ?_;refine gd ?_ ?_<;>intro hc1
 ·refine gq ?_;all_goals (first | rfl | (unfold ckD; rw [if_neg hc1]))
 refine gq ?_
 refine yS (ι := Nat) (fun (k : Nat) => [(1, sgsA l), (2, .ptr 2 0 0 0), (13, sgsA l), (14, iv l.length), (15, iv (k : Int))]) (fun (k : Nat) => [(2, .box (mnE m) 32)]) (fun (k : Nat) => k <= l.length /\ ckD m l = zab m l k (l.drop k)) (fun (k : Nat) => l.length - k) 0 (fun k hk => ?_) (hJ := by
  exact ⟨by omega, by unfold ckD; rw [if_pos hc1]; rfl⟩)
 obtain ⟨hk1, hk2⟩ := hk;refine gd ?_ ?_<;>intro hc2
 ·obtain ⟨s, hs⟩ : ∃ s, l[k]? = some s := ⟨_, lgg (by omega)⟩;have hs2 : l[(k : Int).toNat]? = some s := by simpa using hs
  refine gd ?_ ?_<;>intro hc3
  ·refine gd ?_ ?_<;>intro hc4
   ·apply yg;(iterate 3 refine ya ?_);refine ExF.at 3 ?_;refine yA ?_;(iterate 3 refine ExF.gi ?_);refine gf ?_ ?_<;>intro hc5
    ·have hF : sgF m l k s = 2 := by unfold sgF; rw [if_pos (.inl hc3), if_neg (by omega)]
     refine gq ?_;all_goals (rw [hk2, zbQ hs (by rw [hF]; decide), hF])
    have h0 : sgF m l k s = 0 := by unfold sgF; rw [if_pos (.inl hc3), if_pos (by omega)]
    refine gq ?_
    refine yz (k + 1) (hJ := by
     exact ⟨by omega, by rw [hk2, zdV hs h0]⟩)
   ·exact absurd hc3 hc4
  ·refine gd ?_ ?_<;>intro hc6
   ·apply yg;(iterate 3 refine ya ?_);refine ExF.at 3 ?_;refine yA ?_;(iterate 3 refine ExF.gi ?_);refine gf ?_ ?_<;>intro hc7
    ·have hF : sgF m l k s = 2 := by unfold sgF; rw [if_pos (.inr hc6), if_neg (by omega)]
     refine gq ?_;all_goals (rw [hk2, zbQ hs (by rw [hF]; decide), hF])
    have h0 : sgF m l k s = 0 := by unfold sgF; rw [if_pos (.inr hc6), if_pos (by omega)]
    refine gq ?_
    refine yz (k + 1) (hJ := by
     exact ⟨by omega, by rw [hk2, zdV hs h0]⟩)
   ·refine gd ?_ ?_<;>intro hc8
    ·apply yl;refine zf [35,36,37,38,39,40,41,42,43,44,45,46,47,48,49,50,51,52,53,54,55,56] [0,1,3,7,7,23,63,127,255,511,1023,2047,4095,4095,4095,20479,61439,126975,262143,524287,1048575,2097151] mo ?_;(iterate 3 refine yc ?_);(iterate 7 refine ChM.gi ?_);(iterate 2 refine yc ?_);(iterate 6 refine ChM.gi ?_);refine ChM.cg (zdw m _) ?_;(iterate 2 refine ChM.gi ?_);refine yc ?_;refine yE ?_;refine gd ?_ ?_<;>intro hc9
     ·have hF : sgF m l k s = 13 := by rw [zlI (by omega) hc8, if_pos hc9]
      refine gq ?_;all_goals (rw [hk2, zbQ hs (by rw [hF]; decide), hF])
     have h0 : sgF m l k s = 0 := by rw [zlI (by omega) hc8, if_neg (fun h => by omega)]
     refine gq ?_
     refine yz (k + 1) (hJ := by
      exact ⟨by omega, by rw [hk2, zdV hs h0]⟩)
    ·have hF : sgF m l k s = 8 := by unfold sgF; rw [if_neg (by omega), if_neg (by omega)]
     refine gq ?_;all_goals (rw [hk2, zbQ hs (by rw [hF]; decide), hF])
 ·refine gq ?_;all_goals (rw [hk2, List.drop_of_length_le (by omega)]; rfl)
end
section
attribute [local irreducible] Pur yr yw Ex X Fn Imp LeV LeB FnO It yx
theorem zaI {m : Mn} {l : List Sg} (h : zab m l 0 l = 0) : ∀ k, k <= l.length -> zab m l k (l.drop k) = 0 /\ ∀ i s, i < k -> l[i]? = some s -> sgF m l i s = 0
 | 0, _ => ⟨h, fun i s hi => absurd hi (Nat.not_lt_zero i)⟩
 | k + 1, hk => by
  obtain ⟨h1, h2⟩ := zaI h k (by omega);have hs : l[k]? = some l[k] := lgg (by omega)
  have h0 : sgF m l k l[k] = 0 := by
   by_cases h0 : sgF m l k l[k] = 0
   ·exact h0
   ·rw [zbQ hs h0] at h1; exact h1
  refine ⟨by rw [← zdV hs h0]; exact h1, fun i s hi he => ?_⟩;rcases Nat.lt_succ_iff_lt_or_eq.1 hi with h3 | h3
  ·exact h2 i s h3 he
  ·subst h3; rw [hs] at he; injection he with he; subst he; exact h0
theorem zdW {m : Mn} {l : List Sg} (h : zab m l 0 l = 0) : ∀ k, k <= l.length -> ∀ x, x ∈ y5 l k -> ∃ (j : Nat) (s p : Sg), x = ((j + 1 : Nat) : Int) /\ l[j + 1]? = some s /\ l[j]? = some p
 | 0, _, x, hx => by simp [y5] at hx
 | k + 1, hk, x, hx => by
  simp only [y5, List.mem_append] at hx;rcases hx with hx | hx
  ·exact zdW h k (by omega) x hx
  ·have hs : l[k]? = some l[k] := lgg (by omega);simp only [hs] at hx;split at hx
   ·rename_i hK;have h0 := (zaI h (k + 1) hk).2 k _ (by omega) hs;simp at hx;cases k with
    | zero => unfold sgF at h0; rw [if_neg (by omega), if_pos hK] at h0; simp at h0
    | succ j => exact ⟨j, _, _, hx, hs, lgg (by omega)⟩
   ·simp at hx
def zg1 (l : List Sg) (i : Int) : Option Sg := l[(i - 1).toNat]?
def mnAt (m : Mn) (l : List Sg) (i : Int) : List Int := match zg1 l i with | some p => mngs m p | none => []
def mnsD (m : Mn) (l : List Sg) : List (List Int) := (y5 l l.length).map (mnAt m l)
theorem zmS {m : Mn} {l : List Sg} {L : List Int} {k : Nat} {x : Int} {p : Sg} (h : L[k]? = some x) (hp : l[(x - 1).toNat]? = some p) : (L.take k).map (mnAt m l) ++ [mngs m p] = (L.take (k + 1)).map (mnAt m l) := by
 have e : mnAt m l x = mngs m p := by unfold mnAt zg1; rw [hp]
 rw [List.take_add_one, h];simp [e]
theorem C_dot_Meanings (m : Mn) (l : List Sg) (hl : l.length <= 1000) : Fn Tryz.prog 121 [mnA m, sgsA l] (.tup [zfN (if ckD m l = 0 then mnsD m l else []), iv (ckD m l)]) := by
 refine Fn.go Tryz.func121 Tryz.ntmps121 (fun g w d => ?_);refine gq ?_;refine yb (zal m l hl) ?_;refine gd ?_ ?_<;>intro hc1
 ·apply yg;refine zh ?_;refine X.ret ?_;refine RetQ.imp (ye (ts := [(4, zfN []), (5, iv (ckD m l))]) (hs := [])) ?_;refine yi ?_ ?_;all_goals (first | (simp [hc1]; done) | (rw [if_pos hc1, ← hfin]; rfl) | (rw [if_neg hc1]) | (rw [hc1]; rfl) | rfl)
 apply yp;apply yg;refine yu ?_;iterate 2 apply yl
 refine X.imp (yL zml 59 1 7 7 rfl rfl) ?_
 have hcf : zab m l 0 l = 0 := by unfold ckD at hc1; split at hc1
                                  ·exact hc1
                                  ·exact absurd hc1 (by assumption)
 refine gq ?_;refine yb (zg0 l hl) ?_;refine zm ?_;apply X.block;have hdl := zcC l l.length;refine yS (ι := Nat) (fun (k : Nat) => [(1, sgsA l), (2, .ptr 2 0 0 0), (7, .own 7), (17, yf (y5 l l.length)), (18, iv (y5 l l.length).length), (19, iv (k : Int)), (5, iv 0)]) (fun (k : Nat) => [(2, .box (mnE m) 32), (7, .row zml (((y5 l l.length).take k).map (mnAt m l)) 59 1)]) (fun (k : Nat) => k <= (y5 l l.length).length) (fun (k : Nat) => (y5 l l.length).length - k) 0 (fun k hk => ?_);refine gd ?_ ?_<;>intro hc2
 ·obtain ⟨x, hx⟩ : ∃ x, (y5 l l.length)[k]? = some x := ⟨_, lgg (by omega)⟩;have hx2 : (y5 l l.length)[(k : Int).toNat]? = some x := by simpa using hx
  obtain ⟨j, s, p, hj1, hj2, hj3⟩ := zdW hcf l.length (Nat.le_refl _) x (List.mem_of_getElem? hx);have hjl : j + 1 < l.length := (List.getElem?_eq_some_iff.1 hj2).1;have hp : l[(x - 1).toNat]? = some p := by rw [show (x - 1).toNat = j by omega]; exact hj3
  have hrow2 := zmS (m := m) hx hp;have htl : (((y5 l l.length).take k).map (mnAt m l)).length <= 1000 := by simp; omega
  refine gq ?_;refine zf [23,24,25,26,27,28,29,30,31] [0,0,0,0,8,28,60,126,254,511,1023] mo ?_;iterate 7 refine yc ?_
  refine yM (zdw m _) ?_;refine ChM.step rfl rfl rfl (yF (k := 31) (enc := zml) (l := [_]) zrU ty59 ze59 (by decide) rfl rfl rfl rfl (by decide) (by decide) (fun _ => rfl) rfl) rfl ?_;refine yE ?_;refine gq ?_;refine yz (k + 1)
 ·have hkl : k = (y5 l l.length).length := by omega
  subst hkl;have hfin : ((y5 l l.length).take (y5 l l.length).length).map (mnAt m l) = mnsD m l := by rw [List.take_length]; rfl
  apply X.exit;apply yg;refine zh ?_;refine X.ret ?_;refine RetQ.imp (Imp.freeze (k := 7) rfl) ?_;refine yi ?_ ?_;all_goals (first | (simp [hc1]; done) | (rw [if_pos hc1, ← hfin]; rfl) | (rw [if_neg hc1]) | (rw [hc1]; rfl) | rfl)
end
section
attribute [local irreducible] Pur yr yw Ex X Fn Imp LeV LeB FnO It yx
theorem znS (m : Mn) (s : Sg) : (mngs m s).length <= 2 := by
 unfold mngs;split
 ·exact Nat.le_trans (ze9 _ _) (by simp)
 ·split
  ·simp
  ·split
   ·exact ze9 _ _
   ·have := ze9 posI [m.aV s.Value]; simp at this ⊢; omega
theorem zmT {m : Mn} {l : List Sg} {x : List Int} (h : x ∈ mnsD m l) : x.length <= 2 := by
 obtain ⟨i, _, rfl⟩ := List.mem_map.1 h;unfold mnAt;split
 ·exact znS _ _
 ·simp
theorem zjZ (m : Mn) (l : List Sg) : (mnsD m l).length <= l.length := by simpa [mnsD] using zcC l l.length
end
end Go.Rse
