/-
  Walks: the library's functions on ints with a predicate.
-/
import Derived.Test.YtfiiobachmglpaaGreatDoorSShelf1
import Derived.Test.YtfiiobachmglpaaGreatDoorSTk
set_option linter.unusedSimpArgs false
set_option linter.unusedVariables false
namespace Go.Rse
open Go Go.Proofs
attribute [local irreducible] Pur StepA StepM Ex X ExG Fn Imp LeV LeB FnO It YStep
def fidx (p : Int -> Bool) (l : List Int) : Int := if l.findIdx p < l.length then (l.findIdx p : Int) else -1
theorem fidx_hit {p : Int -> Bool} {l : List Int} {k : Nat} {v : Int} (hv : l[k]? = some v) (hp : p v = true) (hJ : ∀ i u, i < k -> l[i]? = some u -> p u = false) : fidx p l = k := by
 have hk : k < l.length := (List.getElem?_eq_some_iff.1 hv).1
 have hg : l[k] = v := (List.getElem?_eq_some_iff.1 hv).2
 have : l.findIdx p = k := (List.findIdx_eq hk).2 ⟨by rw [hg]; exact hp, fun j hj => hJ j _ hj (List.getElem?_eq_getElem (by omega))⟩
 unfold fidx; rw [this, if_pos hk]
theorem fidx_none {p : Int -> Bool} {l : List Int} (hJ : ∀ i u, i < l.length -> l[i]? = some u -> p u = false) : fidx p l = -1 := by
 have : l.findIdx p = l.length := List.findIdx_eq_length.2 fun x hx => by
  obtain ⟨i, hi⟩ := List.mem_iff_getElem?.1 hx
  simpa using hJ i x (List.getElem?_eq_some_iff.1 hi).1 hi
 unfold fidx; rw [if_neg (by omega)]
theorem C_slices_IndexFunc_int_int (l : List Int) (hl : l.length <= 4000000000) (fp : FuncId) (caps : List AV) (p : Int -> Bool) (hn : AV.nm.nmL caps = true) (hp : ∀ v, v ∈ l -> Fn Tryz.prog fp ([iv v] ++ caps) (.bool (p v))) : FnO Tryz.prog 279 [.own 2000000, .fn fp caps] [(2000000, .row intE l 3 1)] [2000000] (iv (fidx p l)) [(2000000, .row intE l 3 1)] := by
 refine FnO.intro (ts := [(0, .own 2000000), (1, .fn fp caps)]) (rv := [.tmp 4]) (n := 19) (cs := [.own 2000000]) (by kernel_rfl) Tryz.func279 rfl Tryz.ntmps279 rfl rfl (by simp) rfl rfl rfl rfl (fun g w d vs => ?_)
 apply X.sr
 refine Ex.pu ?_
 apply Ex.nil
 apply X.seq
 apply X.sr
 iterate 3 refine Ex.pu ?_
 apply Ex.nil
 apply X.block
 refine X.lp (ι := Nat) (fun (k : Nat) => [(0, .own 2000000), (1, .fn fp caps), (7, iv l.length), (8, iv k)]) (fun (k : Nat) => [(1000001, .hold vs [.own 2000000]), (2000000, .row intE l 3 1)]) (fun (k : Nat) => k <= l.length /\ ∀ i u, i < k -> l[i]? = some u -> p u = false) (fun (k : Nat) => l.length - k) 0 (fun k hk => ?_) (hJ := by
  exact ⟨by omega, fun i u h => absurd h (Nat.not_lt_zero i)⟩)
 obtain ⟨hk1, hk2⟩ := hk
 apply X.sr
 refine Ex.pu ?_
 apply Ex.nil
 apply X.seq
 refine X.cd rfl (fun hc1 => ?_) (fun hc1 => ?_)
 ·obtain ⟨v, hv⟩ : ∃ v, l[k]? = some v := ⟨_, List.getElem?_eq_getElem (by omega)⟩
  have hv2 : l[(k : Int).toNat]? = some v := by simpa using hv
  apply X.skip
  apply X.seq
  apply X.block
  apply X.sr
  iterate 2 refine Ex.pu ?_
  apply Ex.ns
  iterate 5 refine Ex.pu ?_
  refine Ex.call rfl rfl (by simpa [AV.nm.nmL, AV.nm] using hn) (hp v (List.mem_of_getElem? hv)) rfl ?_
  apply Ex.nil
  refine X.cd rfl (fun hc2 => ?_) (fun hc2 => ?_)
  ·have he := fidx_hit hv hc2 hk2
   apply X.sr
   iterate 2 refine Ex.pu ?_
   apply Ex.nil
   refine X.ret ?_
   rw [he]
   refine RetQO.mk (ts := [(4, iv k)]) (.inr rfl) (Imp.au) (.one (.tmp rfl (LeV.eq rfl)))
  apply X.skip
  apply X.region
  iterate 2 refine Ex.pu ?_
  apply Ex.nil
  refine X.bk (k + 1) (hJ := by
   refine ⟨by omega, fun i u hi hu => ?_⟩
   rcases Nat.lt_succ_iff_lt_or_eq.1 hi with h | h
   ·exact hk2 i u h hu
   ·subst h; rw [hv] at hu; injection hu with hu; subst hu; exact hc2)
 ·have he := fidx_none (p := p) (l := l) fun i u hi => hk2 i u (by omega)
  apply X.exit
  apply X.sr
  refine Ex.pu ?_
  apply Ex.nil
  refine X.ret ?_
  rw [he]
  refine RetQO.mk (ts := [(4, iv (-1))]) (.inr rfl) (Imp.au) (.one (.tmp rfl (LeV.eq rfl)))
theorem ok1_nm {L : List Nat} {x : AV} (h : x.nm = true) : ok1 L x = true := by
 cases x <;> first | exact h | (simp [AV.nm] at h)
theorem ren1_nm {μ : List (Nat × Nat)} {x : AV} (h : x.nm = true) : ren1 μ x = x := by
 cases x <;> first | rfl | (simp [AV.nm] at h)
theorem nmL_mem {cs : List AV} (h : AV.nm.nmL cs = true) : ∀ x ∈ cs, x.nm = true := fun x hx => by
 obtain ⟨j, hj⟩ := List.mem_iff_getElem?.1 hx
 exact AV.nmL_get h hj
theorem fn_ok {L : List Nat} {f : FuncId} {caps : List AV} (h : AV.nm.nmL caps = true) : AV.okN L (.fn f caps) = true :=
 List.all_eq_true.2 fun x hx => ok1_nm (nmL_mem h x hx)
theorem fn_ren {μ : List (Nat × Nat)} {f : FuncId} {caps : List AV} (h : AV.nm.nmL caps = true) : AV.fn f caps = AV.ren μ (.fn f caps) := by
 have : caps.map (ren1 μ) = caps := by
  have h2 : caps.map (ren1 μ) = caps.map id := List.map_congr_left fun x hx => ren1_nm (nmL_mem h x hx)
  simpa using h2
 show AV.fn f caps = AV.fn f (caps.map (ren1 μ))
 rw [this]
def dl (p : Int -> Bool) (l : List Int) : List Int := l.filter fun v => !p v
theorem dl_take {p : Int -> Bool} {l : List Int} {k : Nat} {v : Int} (h : l[k]? = some v) : dl p (l.take (k + 1)) = dl p (l.take k) ++ (if p v = true then [] else [v]) := by
 have : l.take (k + 1) = l.take k ++ [v] := by rw [List.take_add_one, h]; rfl
 rw [dl, this, List.filter_append]
 cases hp : p v <;> simp [dl, hp]
theorem fidx_cases (p : Int -> Bool) (l : List Int) : (fidx p l = -1 /\ dl p l = l) \/ ∃ (k : Nat) (v : Int), fidx p l = (k : Int) /\ l[k]? = some v /\ p v = true /\ dl p (l.take k) = l.take k := by
 unfold fidx
 split
 ·rename_i h
  refine .inr ⟨l.findIdx p, l[l.findIdx p], rfl, List.getElem?_eq_getElem h, List.findIdx_getElem (w := h), ?_⟩
  refine List.filter_eq_self.2 fun x hx => ?_
  obtain ⟨i, hi⟩ := List.mem_iff_getElem?.1 hx
  rw [List.getElem?_take] at hi
  split at hi
  ·rename_i hlt
   have := List.not_of_lt_findIdx hlt
   have hg : l[i] = x := (List.getElem?_eq_some_iff.1 hi).2
   rw [hg] at this
   simpa using this
  ·simp at hi
 ·rename_i h
  refine .inl ⟨rfl, List.filter_eq_self.2 fun x hx => ?_⟩
  have h2 : l.findIdx p = l.length := Nat.le_antisymm List.findIdx_le_length (by omega)
  have := (List.findIdx_eq_length.1 h2) x hx
  simpa using this
theorem C_slices_DeleteFunc_int_int (l : List Int) (hl : l.length <= 4000000000) (fp : FuncId) (caps : List AV) (p : Int -> Bool) (hn : AV.nm.nmL caps = true) (hp : ∀ v, v ∈ l -> Fn Tryz.prog fp ([iv v] ++ caps) (.bool (p v))) : FnO Tryz.prog 259 [.own 2000000, .fn fp caps] [(2000000, .row intE l 3 1)] [] (.own 2000000) [(2000000, .row intE (dl p l) 3 1)] := by
 have hcs := fidx_cases p l
 refine FnO.intro (ts := [(0, .own 2000000), (1, .fn fp caps)]) (rv := [.tmp 4]) (n := 42) (cs := []) (by kernel_rfl) Tryz.func259 rfl Tryz.ntmps259 rfl rfl (by simp) rfl rfl rfl rfl (fun g w d vs => ?_)
 apply X.sr
 refine Ex.pu ?_
 apply Ex.ns
 iterate 2 refine Ex.pu ?_
 refine Ex.callO' [(2000000, 2000000)] (C_slices_IndexFunc_int_int l hl fp caps p hn hp) rfl rfl rfl (.cons (LeV.refl _) (.cons (LeV.eq (fn_ren hn)) .nil)) (by simp only [List.all_cons, List.all_nil, fn_ok hn, Bool.and_true]; rfl) rfl ⟨⟨_, _, rfl, rfl, LeB.refl _, rfl⟩, trivial⟩ rfl rfl rfl rfl ?_
 refine Ex.pu ?_
 apply Ex.nil
 apply X.seq
 apply X.sr
 iterate 2 refine Ex.pu ?_
 apply Ex.nil
 refine X.cd rfl (fun hc1 => ?_) (fun hc1 => ?_)
 ·apply X.sr
  iterate 2 refine Ex.pu ?_
  apply Ex.nil
  refine X.ret ?_
  have he := (hcs.resolve_right (fun ⟨k, _, h, _⟩ => by omega)).2
  have hrow1 : l = dl p l := he.symm
  refine RetQO.mk (ts := [(4, .own 2000000)]) (.inr rfl) (Imp.au) (.one (.tmp rfl (LeV.eq rfl)))
 obtain ⟨k0, v0, hk0, hv0, hp0, hd0⟩ := hcs.resolve_left (fun h => by omega)
 have hlt0 : k0 < l.length := (List.getElem?_eq_some_iff.1 hv0).1
 have hd1 : dl p (l.take (k0 + 1)) = l.take k0 := by rw [dl_take hv0, if_pos hp0, hd0, List.append_nil]
 have hl1 : (dl p (l.take (k0 + 1))).length = k0 := by rw [hd1, List.length_take]; omega
 have hrow0 : l = dl p (l.take (k0 + 1)) ++ l.drop (dl p (l.take (k0 + 1))).length := by rw [hl1, hd1, List.take_append_drop]
 apply X.skip
 apply X.seq
 apply X.sr
 iterate 3 refine Ex.pu ?_
 apply Ex.nil
 apply X.block
 refine X.lp (ι := Nat) (fun (k : Nat) => [(0, .own 2000000), (1, .fn fp caps), (5, iv ((dl p (l.take k)).length : Int)), (6, iv (k : Int))]) (fun (k : Nat) => [(1000001, .hold vs []), (2000000, .row intE (dl p (l.take k) ++ l.drop (dl p (l.take k)).length) 3 1)]) (fun (k : Nat) => k <= l.length /\ (dl p (l.take k)).length < k) (fun (k : Nat) => l.length - k) (k0 + 1) (fun k hk => ?_) (hJ := by
  exact ⟨by omega, by omega⟩) (h0 := by
  refine Imp.of ⟨⟨_, rfl, LeV.refl _⟩, ⟨_, rfl, LeV.refl _⟩, ⟨_, rfl, LeV.eq (congrArg (AV.int .i64) (by omega))⟩, ⟨_, rfl, LeV.eq (congrArg (AV.int .i64) (by omega))⟩, trivial⟩ ⟨⟨_, rfl, LeB.refl _⟩, ⟨_, rfl, LeB.row hrow0⟩, trivial⟩)
 obtain ⟨hk1, hk2⟩ := hk
 have hrl : (dl p (l.take k) ++ l.drop (dl p (l.take k)).length).length = l.length := by simp; omega
 apply X.seq
 apply X.sr
 iterate 4 refine Ex.pu ?_
 apply Ex.nil
 refine X.cd rfl (fun hc2 => ?_) (fun hc2 => ?_)
 ·obtain ⟨v, hv⟩ : ∃ v, l[k]? = some v := ⟨_, List.getElem?_eq_getElem (by omega)⟩
  have hv2 : (dl p (l.take k) ++ l.drop (dl p (l.take k)).length)[(k : Int).toNat]? = some v := by
   rw [Int.toNat_natCast, List.getElem?_append_right (by omega), List.getElem?_drop, show (dl p (l.take k)).length + (k - (dl p (l.take k)).length) = k by omega]; exact hv
  apply X.skip
  apply X.seq
  apply X.block
  apply X.sr
  iterate 5 refine Ex.pu ?_
  apply Ex.ns
  iterate 2 refine Ex.pu ?_
  refine Ex.call rfl rfl (by simpa [AV.nm.nmL, AV.nm] using hn) (hp v (List.mem_of_getElem? hv)) rfl ?_
  refine Ex.pu ?_
  apply Ex.nil
  refine X.cd rfl (fun hc3 => ?_) (fun hc3 => ?_)
  ·have hdk : dl p (l.take (k + 1)) = dl p (l.take k) ++ [v] := by rw [dl_take hv, if_neg (by simp [hc3])]
   have hdl : (dl p (l.take (k + 1))).length = (dl p (l.take k)).length + 1 := by rw [hdk]; simp
   have hrow2 : (dl p (l.take k) ++ l.drop (dl p (l.take k)).length).set (((dl p (l.take k)).length : Nat) : Int).toNat v = dl p (l.take (k + 1)) ++ l.drop (dl p (l.take (k + 1))).length := by
    rw [hdl, hdk, Int.toNat_natCast, List.set_append_right _ _ (Nat.le_refl _), Nat.sub_self]
    have h9 : (l.drop (dl p (l.take k)).length).set 0 v = v :: l.drop ((dl p (l.take k)).length + 1) := by rw [List.drop_eq_getElem_cons (show (dl p (l.take k)).length < l.length by omega)]; rfl
    rw [h9]; simp
   apply X.sr
   iterate 4 refine Ex.pu ?_
   refine Ex.mo ?_
   apply Ex.nil
   apply X.region
   iterate 3 refine Ex.pu ?_
   apply Ex.nil
   apply X.region
   iterate 3 refine Ex.pu ?_
   apply Ex.nil
   refine X.bk (k + 1) (hJ := by
    refine ⟨by omega, ?_⟩
    rw [hdl]
    omega)
  ·have hdk : dl p (l.take (k + 1)) = dl p (l.take k) := by rw [dl_take hv, if_pos (by simpa using hc3), List.append_nil]
   have hdl : (dl p (l.take (k + 1))).length = (dl p (l.take k)).length := by rw [hdk]
   have hrow2 : dl p (l.take k) ++ l.drop (dl p (l.take k)).length = dl p (l.take (k + 1)) ++ l.drop (dl p (l.take (k + 1))).length := by rw [hdk]
   apply X.skip
   apply X.region
   iterate 3 refine Ex.pu ?_
   apply Ex.nil
   refine X.bk (k + 1) (hJ := by
    refine ⟨by omega, ?_⟩
    rw [hdl]
    omega)
 ·have hkl : k = l.length := by omega
  subst hkl
  have him : (((dl p (l.take l.length)).length : Nat) : Int).toNat + ((dl p (l.take l.length) ++ l.drop (dl p (l.take l.length)).length).length - (((dl p (l.take l.length)).length : Nat) : Int).toNat) = (dl p (l.take l.length) ++ l.drop (dl p (l.take l.length)).length).length := by rw [Int.toNat_natCast]; omega
  apply X.exit
  apply X.sr
  iterate 2 refine Ex.pu ?_
  refine Ex.pur (P_slice_tail rfl rfl rfl sl27 ty3 (by omega) (by omega)) rfl ?_
  refine Ex.stepM (M_clear (0 : Int) rfl rfl (fun _ => rfl) (by decide) sl27 ti3 rfl rfl rfl him) ?_
  apply Ex.ns
  iterate 2 refine Ex.pu ?_
  refine Ex.stepM (M_take rfl rfl rfl sl27 ty3 (by omega) (by simp; omega) rfl) ?_
  refine Ex.pu ?_
  apply Ex.nil
  refine X.ret ?_
  have hfin : List.take (((dl p (l.take l.length)).length : Nat) : Int).toNat (List.take (((dl p (l.take l.length)).length : Nat) : Int).toNat (dl p (l.take l.length) ++ l.drop (dl p (l.take l.length)).length) ++ List.replicate ((dl p (l.take l.length) ++ l.drop (dl p (l.take l.length)).length).length - (((dl p (l.take l.length)).length : Nat) : Int).toNat) 0) = dl p l := by
   rw [Int.toNat_natCast, List.take_append_of_le_length (by simp), List.take_take, Nat.min_self, List.take_append_of_le_length (Nat.le_refl _), List.take_of_length_le (Nat.le_refl _), List.take_of_length_le (Nat.le_refl _)]
  refine RetQO.mk (ts := [(4, .own 2000000)]) (.inr rfl) (Imp.au) (.one (.tmp rfl (LeV.eq rfl)))
end Go.Rse
