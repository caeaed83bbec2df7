/-
  Contracts of the library's shelf, as the small logic takes them.
-/
import Derived.Test.YtbilklnipfabpaaGreatDoorPLogB
import Derived.Test.YtbilklnipfabpaaGreatDoorPLogC
import Derived.Test.YtbilklnipfabpaaGreatDoorPShelf0
import Derived.Sort.OwnSortedInts
import Derived.Test.YtbilklnipfabpaaGreatDoorPTk
set_option linter.unusedVariables false
set_option linter.unusedSimpArgs false
namespace Go.Rse
open Go Go.Proofs
theorem ziW {I : Im} {l : List Int} {xs : List Value} (hl : xs.length = l.length * 1) (h : ∀ (i : Nat) (x : Int) (j : Nat) (c : AV) (v : Value), l[i]? = some x -> (intE x)[j]? = some c -> xs[i * 1 + j]? = some v -> RV I noNames c v) : xs = l.map (Value.int .i64) := by
 apply List.ext_getElem?;intro i;rw [List.getElem?_map];cases hx : l[i]? with
 | none =>
  have : l.length <= i := by simpa using hx
  rw [List.getElem?_eq_none (by omega)]; rfl
 | some x =>
  have hlt : i < xs.length := by have := (List.getElem?_eq_some_iff.1 hx).1; omega
  have hv := h i x 0 (iv x) xs[i] hx rfl (by simp [lgg hlt]);rw [lgg hlt, yY hv]; rfl
theorem zm7 {I : Im} {l : List Int} : ∀ (i : Nat) (x : Int) (j : Nat) (c : AV) (v : Value), l[i]? = some x -> (intE x)[j]? = some c -> (l.map (Value.int .i64))[i * 1 + j]? = some v -> RV I noNames c v := fun i x j c v hx hc hv => by
 cases j with
 | zero =>
  simp [intE] at hc;simp [hx] at hv;subst hc; subst hv; exact .int _ _
 | succ j => simp [intE] at hc
theorem zkJ {d : Nat} {ρ ρ' : Nat -> Value} {I : Im} {O : Owns} {w w' : World} {E : TypeId} {l l' : List Int} {b : Nat} (hsat : Sat (C0 0 d ⟨ρ, I, O⟩ w) [(2000000, .row intE l E 1)] ⟨ρ, I, O⟩ w) (hρ : ∀ n, n ≠ 2000000 -> ρ' n = ρ n) (hb : yQ (ρ 2000000) = some b) (hb' : yQ (ρ' 2000000) = some b)
 (hm : w.grownBy w' (some b)) (hdw : w.drawn <= w'.drawn) (hw : w'.ownsRow 0 E 1 (ρ' 2000000) l'.length (l'.map (Value.int .i64))) :
 Sat (C0 0 d ⟨ρ, I, O⟩ w) [(2000000, .row intE l' E 1)] ⟨ρ', I, O⟩ w' /\ Ext (C0 0 d ⟨ρ, I, O⟩ w) ⟨ρ', I, O⟩ w' := by
 have hrel : Rel (C0 0 d ⟨ρ, I, O⟩ w) ⟨[], [(2000000, .row intE l E 1)]⟩ ⟨ρ, I, O⟩ { tmps := #[], defers := [] } w := ⟨rfl, Dfs.nil _ _ _, fun t x h => by simp [lk] at h, hsat, ⟨Im.le_refl _, rfl, rfl, rfl, Nat.le_refl _, Nat.le_refl _, fun _ _ _ _ => ⟨rfl, rfl⟩, fun b y n _ hy => ⟨n, hy⟩⟩⟩;obtain ⟨xs, hw0, h1, h2, h3⟩ := hsat.blk 2000000 _ rfl;have h4 := h3 b hb
 have hr := hrel.modifyR (g' := ⟨ρ', I, O⟩) (k := 2000000) (bo := some b) (B := .row intE l' E 1) (d := none) (x := .any) (v := .nilIface) rfl hρ (fun _ _ => rfl) (fun b' e => by injection e with e; subst e; exact h4) hm hdw (hsat.ob.up (Im.le_refl _) hm.size) rfl (.any _)
  ⟨l'.map (Value.int .i64), hw, fun i x _ => rfl, zm7, fun b' hb2 => by
   have : b' = b := by rw [hb'] at hb2; simpa using hb2.symm
   subst this; exact h4⟩
 refine ⟨⟨hr.sat.im, hr.sat.ob, fun k B hB => hr.sat.blk k B ?_⟩, hr.ext⟩;simp only [yp] at hB ⊢;cases hk : Nat.beq 2000000 k <;> simp [hk] at hB ⊢
 ·simp [lk] at hB
 ·exact hB
def srtI (l : List Int) : List Int := l.mergeSort fun x y => decide (x <= y)
theorem zek (l : List Int) : (srtI l).length = l.length := List.length_mergeSort l
theorem zkK {I : Im} {ρ : Nat -> Value} {k : Nat} {args : List Value} (h : RVL I ρ [.own k] args) : args = [ρ k] := by
 obtain ⟨hl, hv⟩ := h
 match args, hl with
 | [v], _ => rw [zH (hv 0 _ v rfl rfl)]
theorem zcx (l : List Int) (hl : l.length <= 4000000000) : FnO Tryz.prog 171 [.own 2000000] [(2000000, .row intE l 3 1)] [2000000] (.tup []) [(2000000, .row intE (srtI l) 3 1)] := by
 refine ⟨by kernel_rfl, fun d ρ I O w args hsat hargs => ?_⟩;rw [zkK hargs];obtain ⟨xs, hw, h1, h2, h3⟩ := hsat.blk 2000000 _ rfl;have hxs := ziW hw.1 h2;rcases hw.2 with ⟨hv, h0⟩ | ⟨b, cap, cur, hv, hb0, hh, hnc, hcm, hcur, htk⟩
 ·have hv : ρ 2000000 = .slice none 0 0 := hv;have hl0 : l = [] := List.eq_nil_of_length_eq_zero h0;subst hl0;have e0 : srtI [] = [] := by simp [srtI]
  rw [hv, e0];refine Calls.mono (Tryz.slices_Sort_int_none none 0 w) ?_
  rintro e w' ⟨rfl, rfl⟩
  exact ⟨_, ρ, I, O, rfl, hsat, .tup [] [] rfl (fun j c v h => by simp at h), ⟨Im.le_refl _, rfl, rfl, rfl, Nat.le_refl _, Nat.le_refl _, fun _ _ _ _ => ⟨rfl, rfl⟩, fun b y n _ hy => ⟨n, hy⟩⟩, fun _ _ => rfl⟩
 ·have hv : ρ 2000000 = .slice (some ⟨b, 0, none⟩) l.length cap := hv;rw [hv];have hhold := holds_of_blockI (ss := l) hh (by rw [← hxs, ← htk]; simp);refine Calls.mono (Tryz.slices_Sort_int b 0 cap l w hhold (yV hh) (by omega)) ?_
  rintro e w' ⟨rfl, n, os, rfl⟩
  have hrow := ownsRow_sortedI (n := n) (os := os) (base := 0) (ss := l) (ts := srtI l) (zek l) hb0 hh hnc hcm (by simpa using hcur);obtain ⟨s1, s2⟩ := zkJ (ρ' := ρ) (l' := srtI l) hsat (fun _ _ => rfl) (by rw [hv]; rfl) (by rw [hv]; rfl) (grownBy_sortedI (n := n) (os := os) (srtI l).toArray) (by show w.drawn <= w.drawn + n; omega) (by rw [hv, zek]; exact hrow);exact ⟨_, ρ, I, O, rfl, s1, .tup [] [] rfl (fun j c v h => by simp at h), s2, fun _ _ => rfl⟩
theorem zbR (l : List Int) (hl : l.length <= 4000000000) : FnO Tryz.prog 172 [.own 2000000] [(2000000, .row intE l 3 1)] [] (.own 2000000) [(2000000, .row intE (Lib.compact l) 3 1)] := by
 refine ⟨by kernel_rfl, fun d ρ I O w args hsat hargs => ?_⟩;rw [zkK hargs];obtain ⟨xs, hw, h1, h2, h3⟩ := hsat.blk 2000000 _ rfl;have hxs := ziW hw.1 h2;rcases hw.2 with ⟨hv, h0⟩ | ⟨b, cap, cur, hv, hb0, hh, hnc, hcm, hcur, htk⟩
 ·have hv : ρ 2000000 = .slice none 0 0 := hv;have hl0 : l = [] := List.eq_nil_of_length_eq_zero h0;subst hl0;have e0 : Lib.compact ([] : List Int) = [] := rfl;rw [hv, e0];refine Calls.mono (Tryz.slices_Compact_int_empty none 0 w) ?_
  rintro e w' ⟨rfl, rfl⟩
  exact ⟨_, ρ, I, O, rfl, hsat, .own _ _ _ _ hv, ⟨Im.le_refl _, rfl, rfl, rfl, Nat.le_refl _, Nat.le_refl _, fun _ _ _ _ => ⟨rfl, rfl⟩, fun b y n _ hy => ⟨n, hy⟩⟩, fun _ h => by simp at h⟩
 ·have hv : ρ 2000000 = .slice (some ⟨b, 0, none⟩) l.length cap := hv;rw [hv];have hhold := holds_of_blockI (ss := l) hh (by rw [← hxs, ← htk]; simp);refine Calls.mono (Tryz.slices_Compact_int b 0 cap l w hhold (by omega) hnc) ?_
  rintro e w' ⟨rfl, n, rfl⟩
  have hcl : (Lib.compact l).length <= l.length := Lib.compact_length_le l;have hrow := ownsRow_sortedI (n := n) (os := #[]) (base := 0) (ss := l) (ts := Lib.compact l ++ List.replicate (l.length - (Lib.compact l).length) 0) (by simp; omega) hb0 hh hnc hcm (by simpa using hcur);have hgb := grownBy_sortedI (w := w) (g := b) (n := n) (os := #[]) (Lib.compact l ++ List.replicate (l.length - (Lib.compact l).length) 0).toArray;rw [Sort.grow_empty] at hrow hgb
  obtain ⟨s1, s2⟩ := zkJ (ρ' := fun k => if k = 2000000 then .slice (some ⟨b, 0, none⟩) (Lib.compact l).length cap else ρ k) (l' := Lib.compact l) hsat (fun k hk => by simp [hk]) (by rw [hv]; rfl) (by simp [yQ]) hgb (by show w.drawn <= w.drawn + n; omega) (by
   refine ⟨by simp, ?_⟩;rcases hrow.2 with ⟨h, _⟩ | ⟨g', cap', cur', hv', hb', hh', hn', hm', hc', ht'⟩
   ·simp at h
   ·simp at hv';obtain ⟨rfl, rfl⟩ := hv';refine .inr ⟨b, cap, cur', by simp, hb', hh', by omega, hm', hc', ?_⟩;have := congrArg (List.take ((Lib.compact l).length * 1)) ht';rw [List.take_take] at this;simp only [Nat.mul_one, List.map_append] at this ⊢;rw [Nat.min_eq_left hcl] at this;rw [this, List.take_append_of_le_length (by simp), List.take_of_length_le (by simp)])
  exact ⟨_, _, I, O, rfl, s1, .own _ _ _ _ (by simp), s2, fun _ h => by simp at h⟩
end Go.Rse
namespace Go.Rse
open Go Go.Proofs
attribute [local irreducible] Pur yx yz Ex X Fn Imp LeV LeB FnO It yC
def fidx (p : Int -> Bool) (l : List Int) : Int := if l.findIdx p < l.length then (l.findIdx p : Int) else -1
theorem ziX {p : Int -> Bool} {l : List Int} {k : Nat} {v : Int} (hv : l[k]? = some v) (hp : p v = true) (hJ : ∀ i u, i < k -> l[i]? = some u -> p u = false) : fidx p l = k := by
 have hk : k < l.length := (List.getElem?_eq_some_iff.1 hv).1;have hg : l[k] = v := (List.getElem?_eq_some_iff.1 hv).2;have : l.findIdx p = k := (List.findIdx_eq hk).2 ⟨by rw [hg]; exact hp, fun j hj => hJ j _ hj (lgg (by omega))⟩;unfold fidx; rw [this, if_pos hk]
theorem zhd {p : Int -> Bool} {l : List Int} (hJ : ∀ i u, i < l.length -> l[i]? = some u -> p u = false) : fidx p l = -1 := by
 have : l.findIdx p = l.length := List.findIdx_eq_length.2 fun x hx => by
  obtain ⟨i, hi⟩ := List.mem_iff_getElem?.1 hx;simpa using hJ i x (List.getElem?_eq_some_iff.1 hi).1 hi
 unfold fidx; rw [if_neg (by omega)]
theorem zbr (l : List Int) (hl : l.length <= 4000000000) (fp : FuncId) (caps : List AV) (p : Int -> Bool) (hn : AV.nm.nmL caps = true) (hp : ∀ v, v ∈ l -> Fn Tryz.prog fp ([iv v] ++ caps) (.bool (p v))) : FnO Tryz.prog 190 [.own 2000000, .fn fp caps] [(2000000, .row intE l 3 1)] [2000000] (iv (fidx p l)) [(2000000, .row intE l 3 1)] := by
 refine FnO.intro (ts := [(0, .own 2000000), (1, .fn fp caps)]) (rv := [.tmp 4]) (n := 19) (cs := [.own 2000000]) (by kernel_rfl) Tryz.func190 rfl Tryz.ntmps190 rfl rfl (by simp) rfl rfl rfl rfl (fun g w d vs => ?_);apply yb;refine ye ?_;apply yd;apply yb;refine yn ?_;apply X.block
 refine zh (ι := Nat) (fun (k : Nat) => [(0, .own 2000000), (1, .fn fp caps), (7, iv l.length), (8, iv k)]) (fun (k : Nat) => [(1000001, .hold vs [.own 2000000]), (2000000, .row intE l 3 1)]) (fun (k : Nat) => k <= l.length /\ ∀ i u, i < k -> l[i]? = some u -> p u = false) (fun (k : Nat) => l.length - k) 0 (fun k hk => ?_) (hJ := by
  exact ⟨by omega, fun i u h => absurd h (Nat.not_lt_zero i)⟩)
 obtain ⟨hk1, hk2⟩ := hk;apply yb;refine ye ?_;apply yd;refine yk rfl ?_ ?_<;>intro hc1
 ·obtain ⟨v, hv⟩ : ∃ v, l[k]? = some v := ⟨_, lgg (by omega)⟩;have hv2 : l[(k : Int).toNat]? = some v := by simpa using hv
  apply yf;apply yd;apply X.block;apply yb;iterate 2 refine ya ?_
  apply yj;iterate 5 refine ya ?_
  refine Ex.call rfl rfl (by simpa [AV.nm.nmL, AV.nm] using hn) (hp v (List.mem_of_getElem? hv)) rfl ?_;apply Ex.nil;refine yk rfl ?_ ?_<;>intro hc2
  ·have he := ziX hv hc2 hk2;apply yb;refine yh ?_;refine X.ret ?_;rw [he];refine zkW.mk (ts := [(4, iv k)]) (.inr rfl) (yi) (.one (.tmp rfl (LeV.eq rfl)))
  apply yf;apply yc;refine yh ?_
  refine yP (k + 1) (hJ := by
   refine ⟨by omega, fun i u hi hu => ?_⟩;rcases Nat.lt_succ_iff_lt_or_eq.1 hi with h | h
   ·exact hk2 i u h hu
   ·subst h; rw [hv] at hu; injection hu with hu; subst hu; exact hc2)
 ·have he := zhd (p := p) (l := l) fun i u hi => hk2 i u (by omega)
  apply X.exit;apply yb;refine ye ?_;refine X.ret ?_;rw [he];refine zkW.mk (ts := [(4, iv (-1))]) (.inr rfl) (yi) (.one (.tmp rfl (LeV.eq rfl)))
theorem zrf {L : List Nat} {x : AV} (h : x.nm = true) : ok1 L x = true := by
 cases x <;> first | exact h | (simp [AV.nm] at h)
theorem zoT {μ : List (Nat × Nat)} {x : AV} (h : x.nm = true) : ren1 μ x = x := by
 cases x <;> first | rfl | (simp [AV.nm] at h)
theorem zkL {cs : List AV} (h : AV.nm.nmL cs = true) : ∀ x ∈ cs, x.nm = true := fun x hx => by
 obtain ⟨j, hj⟩ := List.mem_iff_getElem?.1 hx;exact zg h hj
theorem zs3 {L : List Nat} {f : FuncId} {caps : List AV} (h : AV.nm.nmL caps = true) : AV.okN L (.fn f caps) = true :=
 List.all_eq_true.2 fun x hx => zrf (zkL h x hx)
theorem zrg {μ : List (Nat × Nat)} {f : FuncId} {caps : List AV} (h : AV.nm.nmL caps = true) : AV.fn f caps = AV.ren μ (.fn f caps) := by
 have : caps.map (ren1 μ) = caps := by
  have h2 : caps.map (ren1 μ) = caps.map id := List.map_congr_left fun x hx => zoT (zkL h x hx)
  simpa using h2
 show AV.fn f caps = AV.fn f (caps.map (ren1 μ));rw [this]
def dl (p : Int -> Bool) (l : List Int) : List Int := l.filter fun v => !p v
theorem zia {p : Int -> Bool} {l : List Int} {k : Nat} {v : Int} (h : l[k]? = some v) : dl p (l.take (k + 1)) = dl p (l.take k) ++ (if p v = true then [] else [v]) := by
 have : l.take (k + 1) = l.take k ++ [v] := by rw [List.take_add_one, h]; rfl
 rw [dl, this, List.filter_append];cases hp : p v <;> simp [dl, hp]
theorem zjO (p : Int -> Bool) (l : List Int) : (fidx p l = -1 /\ dl p l = l) \/ ∃ (k : Nat) (v : Int), fidx p l = (k : Int) /\ l[k]? = some v /\ p v = true /\ dl p (l.take k) = l.take k := by
 unfold fidx;split
 ·rename_i h;refine .inr ⟨l.findIdx p, l[l.findIdx p], rfl, lgg h, List.findIdx_getElem (w := h), ?_⟩;refine List.filter_eq_self.2 fun x hx => ?_
  obtain ⟨i, hi⟩ := List.mem_iff_getElem?.1 hx;rw [List.getElem?_take] at hi;split at hi
  ·rename_i hlt;have := List.not_of_lt_findIdx hlt;have hg : l[i] = x := (List.getElem?_eq_some_iff.1 hi).2;rw [hg] at this;simpa using this
  ·simp at hi
 ·rename_i h;refine .inl ⟨rfl, List.filter_eq_self.2 fun x hx => ?_⟩;have h2 : l.findIdx p = l.length := Nat.le_antisymm List.findIdx_le_length (by omega);have := (List.findIdx_eq_length.1 h2) x hx;simpa using this
theorem zbd (l : List Int) (hl : l.length <= 4000000000) (fp : FuncId) (caps : List AV) (p : Int -> Bool) (hn : AV.nm.nmL caps = true) (hp : ∀ v, v ∈ l -> Fn Tryz.prog fp ([iv v] ++ caps) (.bool (p v))) : FnO Tryz.prog 169 [.own 2000000, .fn fp caps] [(2000000, .row intE l 3 1)] [] (.own 2000000) [(2000000, .row intE (dl p l) 3 1)] := by
 have hcs := zjO p l;refine FnO.intro (ts := [(0, .own 2000000), (1, .fn fp caps)]) (rv := [.tmp 4]) (n := 42) (cs := []) (by kernel_rfl) Tryz.func169 rfl Tryz.ntmps169 rfl rfl (by simp) rfl rfl rfl rfl (fun g w d vs => ?_);apply yb;refine ya ?_;apply yj;iterate 2 refine ya ?_
 refine zah [(2000000, 2000000)] (zbr l hl fp caps p hn hp) rfl rfl rfl (.cons (LeV.refl _) (.cons (LeV.eq (zrg hn)) .nil)) (by simp only [List.all_cons, List.all_nil, zs3 hn, Bool.and_true]; rfl) rfl ⟨⟨_, _, rfl, rfl, LeB.refl _, rfl⟩, trivial⟩ rfl rfl rfl rfl ?_;refine ye ?_;apply yd;apply yb;refine yh ?_;refine yk rfl ?_ ?_<;>intro hc1
 ·apply yb;refine yh ?_;refine X.ret ?_;have he := (hcs.resolve_right (fun ⟨k, _, h, _⟩ => by omega)).2;have hrow1 : l = dl p l := he.symm;refine zkW.mk (ts := [(4, .own 2000000)]) (.inr rfl) (yi) (.one (.tmp rfl (LeV.eq rfl)))
 obtain ⟨k0, v0, hk0, hv0, hp0, hd0⟩ := hcs.resolve_left (fun h => by omega);have hlt0 : k0 < l.length := (List.getElem?_eq_some_iff.1 hv0).1;have hd1 : dl p (l.take (k0 + 1)) = l.take k0 := by rw [zia hv0, if_pos hp0, hd0, List.append_nil]
 have hl1 : (dl p (l.take (k0 + 1))).length = k0 := by rw [hd1, List.length_take]; omega
 have hrow0 : l = dl p (l.take (k0 + 1)) ++ l.drop (dl p (l.take (k0 + 1))).length := by rw [hl1, hd1, List.take_append_drop]
 apply yf;apply yd;apply yb;refine yn ?_;apply X.block
 refine zh (ι := Nat) (fun (k : Nat) => [(0, .own 2000000), (1, .fn fp caps), (5, iv ((dl p (l.take k)).length : Int)), (6, iv (k : Int))]) (fun (k : Nat) => [(1000001, .hold vs []), (2000000, .row intE (dl p (l.take k) ++ l.drop (dl p (l.take k)).length) 3 1)]) (fun (k : Nat) => k <= l.length /\ (dl p (l.take k)).length < k) (fun (k : Nat) => l.length - k) (k0 + 1) (fun k hk => ?_) (hJ := by
  exact ⟨by omega, by omega⟩) (h0 := by
  refine Imp.of ⟨⟨_, rfl, LeV.refl _⟩, ⟨_, rfl, LeV.refl _⟩, ⟨_, rfl, LeV.eq (congrArg (AV.int .i64) (by omega))⟩, ⟨_, rfl, LeV.eq (congrArg (AV.int .i64) (by omega))⟩, trivial⟩ ⟨⟨_, rfl, LeB.refl _⟩, ⟨_, rfl, LeB.row hrow0⟩, trivial⟩)
 obtain ⟨hk1, hk2⟩ := hk;have hrl : (dl p (l.take k) ++ l.drop (dl p (l.take k)).length).length = l.length := by simp; omega
 apply yd;apply yb;refine zT ?_;refine yk rfl ?_ ?_<;>intro hc2
 ·obtain ⟨v, hv⟩ : ∃ v, l[k]? = some v := ⟨_, lgg (by omega)⟩
  have hv2 : (dl p (l.take k) ++ l.drop (dl p (l.take k)).length)[(k : Int).toNat]? = some v := by
   rw [Int.toNat_natCast, List.getElem?_append_right (by omega), List.getElem?_drop, show (dl p (l.take k)).length + (k - (dl p (l.take k)).length) = k by omega]; exact hv
  apply yf;apply yd;apply X.block;apply yb;iterate 5 refine ya ?_
  apply yj;iterate 2 refine ya ?_
  refine Ex.call rfl rfl (by simpa [AV.nm.nmL, AV.nm] using hn) (hp v (List.mem_of_getElem? hv)) rfl ?_;refine ye ?_;refine yk rfl ?_ ?_<;>intro hc3
  ·have hdk : dl p (l.take (k + 1)) = dl p (l.take k) ++ [v] := by rw [zia hv, if_neg (by simp [hc3])]
   have hdl : (dl p (l.take (k + 1))).length = (dl p (l.take k)).length + 1 := by rw [hdk]; simp
   have hrow2 : (dl p (l.take k) ++ l.drop (dl p (l.take k)).length).set (((dl p (l.take k)).length : Nat) : Int).toNat v = dl p (l.take (k + 1)) ++ l.drop (dl p (l.take (k + 1))).length := by
    rw [hdl, hdk, Int.toNat_natCast, List.set_append_right _ _ (Nat.le_refl _), Nat.sub_self];have h9 : (l.drop (dl p (l.take k)).length).set 0 v = v :: l.drop ((dl p (l.take k)).length + 1) := by rw [List.drop_eq_getElem_cons (show (dl p (l.take k)).length < l.length by omega)]; rfl
    rw [h9]; simp
   apply yb;(iterate 4 refine ya ?_);refine Ex.mo ?_;apply Ex.nil;apply yc;refine yn ?_;apply yc;refine yn ?_
   refine yP (k + 1) (hJ := by
    refine ⟨by omega, ?_⟩;rw [hdl];omega)
  ·have hdk : dl p (l.take (k + 1)) = dl p (l.take k) := by rw [zia hv, if_pos (by simpa using hc3), List.append_nil]
   have hdl : (dl p (l.take (k + 1))).length = (dl p (l.take k)).length := by rw [hdk]
   have hrow2 : dl p (l.take k) ++ l.drop (dl p (l.take k)).length = dl p (l.take (k + 1)) ++ l.drop (dl p (l.take (k + 1))).length := by rw [hdk]
   apply yf;apply yc;refine yn ?_
   refine yP (k + 1) (hJ := by
    refine ⟨by omega, ?_⟩;rw [hdl];omega)
 ·have hkl : k = l.length := by omega
  subst hkl;have him : (((dl p (l.take l.length)).length : Nat) : Int).toNat + ((dl p (l.take l.length) ++ l.drop (dl p (l.take l.length)).length).length - (((dl p (l.take l.length)).length : Nat) : Int).toNat) = (dl p (l.take l.length) ++ l.drop (dl p (l.take l.length)).length).length := by rw [Int.toNat_natCast]; omega
  apply X.exit;apply yb;iterate 2 refine ya ?_
  refine zO (zbe rfl rfl rfl sl22 ty3 (by omega) (by omega)) rfl ?_;refine zac (zo7 (0 : Int) rfl rfl (fun _ => rfl) (by decide) sl22 ti3 rfl rfl rfl him) ?_;apply yj;iterate 2 refine ya ?_
  refine zac (znu rfl rfl rfl sl22 ty3 (by omega) (by simp; omega) rfl) ?_;refine ye ?_;refine X.ret ?_
  have hfin : List.take (((dl p (l.take l.length)).length : Nat) : Int).toNat (List.take (((dl p (l.take l.length)).length : Nat) : Int).toNat (dl p (l.take l.length) ++ l.drop (dl p (l.take l.length)).length) ++ List.replicate ((dl p (l.take l.length) ++ l.drop (dl p (l.take l.length)).length).length - (((dl p (l.take l.length)).length : Nat) : Int).toNat) 0) = dl p l := by
   rw [Int.toNat_natCast, List.take_append_of_le_length (by simp), List.take_take, Nat.min_self, List.take_append_of_le_length (Nat.le_refl _), List.take_of_length_le (Nat.le_refl _), List.take_of_length_le (Nat.le_refl _)]
  refine zkW.mk (ts := [(4, .own 2000000)]) (.inr rfl) (yi) (.one (.tmp rfl (LeV.eq rfl)))
end Go.Rse
