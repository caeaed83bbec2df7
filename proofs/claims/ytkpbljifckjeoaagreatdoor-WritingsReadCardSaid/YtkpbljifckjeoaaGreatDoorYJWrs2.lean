/-
  Walks.
-/
import Derived.Test.YtkpbljifckjeoaaGreatDoorYJWrs1
set_option linter.unusedSimpArgs false
set_option linter.unusedVariables false
namespace Go.Rse
open Go Go.Proofs
section
def flK (L : List (List Sg)) (k : Nat) : List Sg := (L.take k).flatten
theorem zrA {L : List (List Sg)} {k : Nat} {s : List Sg} (h : L[k]? = some s) : flK L k ++ s = flK L (k + 1) := by
 unfold flK; rw [List.take_add_one, h]; simp
theorem zvo (L : List (List Sg)) : [] = flK L 0 := rfl
theorem zvp (L : List (List Sg)) : flK L L.length = L.flatten := by unfold flK; rw [List.take_length]
theorem zk1 (L : List (List Sg)) (k : Nat) : (flK L k).length <= L.flatten.length := by
 have : L.flatten = (L.take k).flatten ++ (L.drop k).flatten := by rw [← List.flatten_append, List.take_append_drop]
 unfold flK; rw [this, List.length_append]; omega
attribute [local irreducible] Pur yr yw Ex X Fn Imp LeV LeB FnO It yx FnW FnOW FnP FnD
attribute [local irreducible] flK
theorem zbd (n : Int) (h0 : 0 <= n) (hn : n <= 1000000) : FnO Tryz.prog 115 [.nils, iv n] [] [] (.own 5) [(5, .row sgE [] 41 17)] := by
 refine FnO.intro (ts := [(0, .nils), (1, iv n)]) (rv := [.tmp 4]) (n := 27) (cs := []) (by kernel_rfl) Tryz.func115 rfl Tryz.ntmps115 rfl rfl (by simp) rfl rfl rfl rfl (fun g w d vs => ?_);refine gd ?_ ?_<;>intro hc1
 ·omega
 apply yp;apply yl;apply yg;iterate 2 refine ya ?_
 refine ya (hs := zhl rfl SlK.h) ?_;refine gd ?_ ?_<;>intro hc2
 ·apply ym;iterate 2 refine ya ?_
  refine ya (hs := zhl rfl SlK.h) ?_;refine ya (hs := zj9 rfl rfl SlK.h TyK.h) ?_;refine gq ?_;refine Ex.stepA (zp8 (k := 5) (n := n.toNat) SlK.h Tryz.underlying3 TiK.h (by decide) (by decide) rfl rfl (by omega) (by omega) (by omega)) rfl rfl ?_;refine gq ?_;refine z8 (zoK rfl rfl rfl SlK.h TyK.h (by omega) (by simp; omega) rfl) ?_;refine ya ?_;apply yI;refine zm ?_;refine X.ret ?_;refine zmh.imp (zos (enc := anyE 17) (l := (List.replicate n.toNat ()).take (0 : Int).toNat) sgE 5 41 17 (by exact rfl) (by simp)) ?_;refine zmh.mk (ts := [(4, .own 5)]) (.inr rfl) (ye) (.one (.tmp rfl (LeV.eq rfl)))
 ·apply yp;apply yg;refine zm ?_;refine X.ret ?_;refine zmh.imp (yL sgE 41 17 4 5 rfl rfl) ?_;refine zmh.mk (ts := [(4, .own 5)]) (.inr rfl) (ye) (.one (.tmp rfl (LeV.eq rfl)))
set_option maxHeartbeats 1000000 in
theorem zaU (L : List (List Sg)) (hL : L.length <= 1000000) (hf : L.flatten.length <= 1000000) : Fn Tryz.prog 85 [zF L] (sgsA L.flatten) := by
 have hz0 : [] = flK L 0 := zvo L;have hz1 : (0 : Int) = ((flK L 0).length : Int) := by rw [← hz0]; rfl
 refine Fn.go Tryz.func85 Tryz.ntmps85 (fun g w d => ?_);refine gq ?_
 refine yS (ι := Nat) (fun (k : Nat) => [(0, zF L), (2, .nils), (3, iv ((flK L k).length : Int)), (9, zF L), (10, iv (L.length : Int)), (11, iv (k : Int))]) (fun (k : Nat) => []) (fun (k : Nat) => k <= L.length) (fun (k : Nat) => L.length - k) 0 (fun k hk => ?_) (h0 := by
  exact yd)
 refine gd ?_ ?_<;>intro hc1
 ·obtain ⟨s, hs⟩ : ∃ s, L[k]? = some s := ⟨_, lgg (by omega)⟩;have hs2 : L[(k : Int).toNat]? = some s := by simpa using hs
  have hst := zrA hs;have hle := zk1 L (k + 1);have hsl : ((flK L (k + 1)).length : Int) = ((flK L k).length : Int) + (s.length : Int) := by rw [← hst]; simp
  refine gd ?_ ?_<;>intro hc2
  ·omega
  refine gq ?_;refine yz (k + 1) (hI := yd)
 ·obtain rfl : k = L.length := by omega
  refine gq ?_;refine zaF [(5, 30)] (zbd ((flK L L.length).length : Int) (by omega) (by have := zk1 L L.length; omega)) ?_;refine gq ?_
  refine yS (ι := Nat) (fun (k : Nat) => [(2, .nils), (6, .own 30), (25, zF L), (26, iv (L.length : Int)), (27, iv (k : Int))]) (fun (k : Nat) => [(30, .row sgE (flK L k) 41 17)]) (fun (k : Nat) => k <= L.length) (fun (k : Nat) => L.length - k) 0 (fun k hk => ?_) (hJ := by
   exact Nat.zero_le _) (h0 := by
   exact yd)
  refine gd ?_ ?_<;>intro hc3
  ·obtain ⟨s, hs⟩ : ∃ s, L[k]? = some s := ⟨_, lgg (by omega)⟩;have hs2 : L[(k : Int).toNat]? = some s := by simpa using hs
   have hst := zrA hs;have hle := zk1 L (k + 1);have hsl : ((flK L (k + 1)).length : Int) = ((flK L k).length : Int) + (s.length : Int) := by rw [← hst]; simp
   apply yp;apply yl;apply X.block;apply yg;iterate 3 refine ya ?_
   apply Ex.nil;apply ym;iterate 2 refine ya ?_
   refine z8 (zbq (l := flK L k) (l2 := s) rfl rfl rfl SlK.h TiK.h (by decide) (by decide) (fun _ => rfl) (fun _ => rfl) (by omega) rfl) ?_;refine gq ?_;refine yz (k + 1) (hI := yd)
  ·obtain rfl : k = L.length := by omega
   have hV := zvp L;apply X.exit;apply yg;refine zm ?_;refine X.ret ?_;refine RetQ.imp (Imp.freeze (k := 30) rfl) ?_;refine gq ?_;all_goals (first | exact congrArg (fun z => sgsA z) hV | rfl)
end
section
def wuL : List (List (List Sg)) -> List Sg -> List (List Sg)
 | [], r => [r]
 | f :: F, r => f.flatMap fun x => wuL F (r ++ x)
def wuX (F : List (List (List Sg))) (r : List Sg) : List (List AV) := (wuL F r).map fun x => [sgsA x]
def wuK (f : List (List Sg)) (F : List (List (List Sg))) (r : List Sg) (k : Nat) : Nat := ((f.take k).flatMap fun x => wuL F (r ++ x)).length
theorem zd3 {F : List (List (List Sg))} {r : List Sg} {j : Nat} {zs : List AV} (h : (wuX F r)[j]? = some zs) : ∃ x, (wuL F r)[j]? = some x /\ zs = [sgsA x] := by
 rw [wuX, List.getElem?_map] at h;cases hk : (wuL F r)[j]? with
 | none => simp [hk] at h
 | some k => simp [hk] at h; exact ⟨k, rfl, h.symm⟩
theorem zs4 (r : List Sg) : (wuX [] r)[0]? = some [sgsA r] := rfl
theorem zot {f : List (List Sg)} {F : List (List (List Sg))} {r s : List Sg} {k : Nat} (h : f[k]? = some s) : wuL (f :: F) r = (f.take k).flatMap (fun x => wuL F (r ++ x)) ++ (wuL F (r ++ s) ++ (f.drop (k + 1)).flatMap fun x => wuL F (r ++ x)) := by
 have h1 := List.getElem?_eq_some_iff.1 h;have e : f = f.take k ++ s :: f.drop (k + 1) := by rw [← h1.2, ← List.drop_eq_getElem_cons h1.1, List.take_append_drop]
 show f.flatMap _ = _;conv => lhs; rw [e]
 rw [List.flatMap_append, List.flatMap_cons]
theorem zvq {f : List (List Sg)} {F : List (List (List Sg))} {r s x : List Sg} {k j : Nat} (h : f[k]? = some s) (hx : (wuL F (r ++ s))[j]? = some x) : (wuX (f :: F) r)[wuK f F r k + j]? = some [sgsA x] := by
 unfold wuX;rw [List.getElem?_map, zot h, List.getElem?_append_right (by unfold wuK; omega)];have h2 := (List.getElem?_eq_some_iff.1 hx).1;rw [List.getElem?_append_left (by unfold wuK; omega)];have : wuK f F r k + j - ((f.take k).flatMap fun x => wuL F (r ++ x)).length = j := by unfold wuK; omega
 rw [this, hx]; rfl
theorem zvr (f : List (List Sg)) (F : List (List (List Sg))) (r : List Sg) : 0 = wuK f F r 0 := by unfold wuK; simp
theorem zvs {f : List (List Sg)} {F : List (List (List Sg))} {r s : List Sg} {k : Nat} (h : f[k]? = some s) : wuK f F r k + (wuX F (r ++ s)).length = wuK f F r (k + 1) := by
 unfold wuK wuX;rw [List.take_add_one, h, List.flatMap_append, List.length_append, List.length_map]; simp
theorem zvt (f : List (List Sg)) (F : List (List (List Sg))) (r : List Sg) : wuK f F r f.length = (wuX (f :: F) r).length := by
 unfold wuK wuX; rw [List.length_map, List.take_length]; rfl
attribute [local irreducible] Pur yr yw Ex X Fn Imp LeV LeB FnO It yx FnW FnOW FnP FnD
attribute [local irreducible] wuX wuK wuL
theorem zde (r : List Sg) (F : List (List (List Sg))) : Fn Tryz.prog 66 [sgsA r, chsA F] (.fn 84 [.ept (fun _ : Unit => [chsA F]) () 0, .ept (fun _ : Unit => [sgsA r]) () 0]) := by
 refine Fn.go Tryz.func66 Tryz.ntmps66 (fun g w d => ?_);apply yg;iterate 2 refine zbB ?_
 refine ya ?_;apply yI;refine zm ?_;refine X.ret ?_;refine RetQ.imp ((yR (k := 2) rfl rfl).trans (yR (k := 3) rfl rfl)) ?_;refine gq ?_;all_goals (first | rfl | (simp_all; done))
theorem zdm (r : List Sg) : It Tryz.prog 84 [.ept (fun _ : Unit => [chsA []]) () 0, .ept (fun _ : Unit => [sgsA r]) () 0] (wuX [] r) := by
 refine It.intro (ts := fun lY => [(0, .yv lY), (1, .ept (fun _ : Unit => [chsA []]) () 0), (2, .ept (fun _ : Unit => [sgsA r]) () 0)]) (n := 34) (by kernel_rfl) Tryz.func84 rfl Tryz.ntmps84 rfl (fun _ => rfl) (by simp) (fun g w d ds Y lY hY => ?_);apply yg;refine zbB ?_;refine gd ?_ ?_<;>intro hc1
 ·apply yg;iterate 2 refine ya ?_
  refine Ex.yield hY rfl rfl rfl (LeL.refl _) rfl rfl (zs4 r) rfl (fun b => ?_);apply Ex.nil;refine X.ret ?_;refine ⟨.inr rfl, _, b, rfl, fun hb => by subst hb; unfold wuX wuL; rfl⟩
 simp at hc1
set_option maxHeartbeats 2000000 in
theorem zc0 (r : List Sg) (G F : List (List (List Sg))) (f : List (List Sg)) (hG0 : G[(0 : Int).toNat]? = some f) (hGd : G.drop (1 : Int).toNat = F) (hGl : 0 < G.length) (hG9 : G.length <= 1000000) (hr : r.length <= 100000) (hf : f.length <= 1000000) (hF : ∀ s ∈ f, s.length <= 100000) (ih : ∀ s ∈ f, It Tryz.prog 84 [.ept (fun _ : Unit => [chsA F]) () 0, .ept (fun _ : Unit => [sgsA (r ++ s)]) () 0] (wuX F (r ++ s))) : It Tryz.prog 84 [.ept (fun _ : Unit => [chsA G]) () 0, .ept (fun _ : Unit => [sgsA r]) () 0] (wuX (f :: F) r) := by
 have hk0 := zvr f F r;refine It.intro (ts := fun lY => [(0, .yv lY), (1, .ept (fun _ : Unit => [chsA G]) () 0), (2, .ept (fun _ : Unit => [sgsA r]) () 0)]) (n := 34) (by kernel_rfl) Tryz.func84 rfl Tryz.ntmps84 rfl (fun _ => rfl) (by simp) (fun g w d ds Y lY hY => ?_);apply yg;refine zbB ?_;refine gd ?_ ?_<;>intro hc1
 ·omega
 refine gq ?_
 refine yS (ι := Nat) (fun (k : Nat) => [(1, .ept (fun _ : Unit => [chsA G]) () 0), (2, .ept (fun _ : Unit => [sgsA r]) () 0), (3, .ptr 3 0 0 0), (15, zF f), (16, iv (f.length : Int)), (17, iv (k : Int))]) (fun (k : Nat) => [(3, .box [.yv lY] 107), (1000000, .yld (wuK f F r k) true)]) (fun (k : Nat) => k <= f.length) (fun (k : Nat) => f.length - k) 0 (fun k hk => ?_) (hJ := by
  exact Nat.zero_le _) (h0 := by
  exact yd)
 refine gd ?_ ?_<;>intro hc2
 ·obtain ⟨s, hs⟩ : ∃ s, f[k]? = some s := ⟨_, lgg (by omega)⟩;have hs2 : f[(k : Int).toNat]? = some s := by simpa using hs
  have hks := zvs (F := F) (r := r) hs;have hsl := hF s (List.mem_of_getElem? hs);have hC := zaU [r, s] (by simp) (by simp; omega);rw [show [r, s].flatten = r ++ s by simp] at hC;have hR : Fn Tryz.prog 66 [sgsA (r ++ s), chsA (G.drop (1 : Int).toNat)] (.fn 84 [.ept (fun _ : Unit => [chsA F]) () 0, .ept (fun _ : Unit => [sgsA (r ++ s)]) () 0]) := by rw [hGd]; exact zde (r ++ s) F
  refine gq ?_;refine zf [21,22,23,24,25,26,27] [0,0,3,7,0,16,63] mo ?_;iterate 2 refine yc ?_
  refine ChM.step rfl rfl rfl (zac (enc := sgsE) (l := [r, s]) sl55 ty27 ze27) rfl ?_;refine yM hC ?_;refine yc ?_
  first
   | refine ChM.step rfl rfl rfl (Pur.stepA (zI rfl rfl rfl zky ty55 (by omega) (by omega))) rfl ?_
   | refine ChM.step rfl rfl rfl (Pur.stepA (zaa rfl rfl zky ty55 (fun _ => rfl) (by omega) (by omega))) rfl ?_
  refine yM hR ?_;refine yE ?_;refine gq ?_;refine X.range (sl := [1, 2, 3, 15, 16, 17]) (fun j => ([.ept (fun _ : Unit => [chsA G]) () 0, .ept (fun _ : Unit => [sgsA r]) () 0, .ptr 3 0 0 0, zF f, iv (f.length : Int), iv (k : Int)], [(3, .box [.yv lY] 107), (1000000, .yld (wuK f F r k + j) true)])) (fun j => True) 900001 900002 rfl rfl (by decide) (fun j zs hj => by obtain ⟨_, _, rfl⟩ := zd3 hj; rfl) ((ih s (List.mem_of_getElem? hs))) trivial rfl rfl (by decide) (Nat.le_refl _) (by simp) (fun j zs hj => by obtain ⟨_, _, rfl⟩ := zd3 hj; rfl) (fun _ => rfl) rfl rfl (fun l o us => ye) (trivial) (fun j zs hj hJ l ready busy rb vs g w hb hyB => ?_) (fun hJ => ?_)
  ·have hZ1 := zd3 hj;obtain ⟨x, hx, rfl⟩ := hZ1;apply ym;refine yu ?_;refine ⟨rfl, rfl, ?_⟩;apply X.block;apply yg;(iterate 2 refine ya ?_);refine Ex.yield hY rfl rfl rfl (LeL.refl _) rfl rfl (zvq hs hx) rfl (fun b => ?_);refine gd ?_ ?_<;>intro hc3
   ·subst hc3;refine X.ret ?_;refine ⟨[.ept (fun _ : Unit => [chsA G]) () 0, .ept (fun _ : Unit => [sgsA r]) () 0, .ptr 3 0 0 0, zF f, iv (f.length : Int), iv (k : Int)], [(3, .box [.yv lY] 107), (1000000, .yld (wuK f F r k + j) false)], ye, ?_⟩;refine ⟨.inr rfl, _, false, rfl, fun hb => by simp at hb⟩
   subst hc3;apply yp;refine ⟨[.ept (fun _ : Unit => [chsA G]) () 0, .ept (fun _ : Unit => [sgsA r]) () 0, .ptr 3 0 0 0, zF f, iv (f.length : Int), iv (k : Int)], [(3, .box [.yv lY] 107), (1000000, .yld (wuK f F r k + (j + 1)) true)], ye, rfl, trivial⟩
  refine gq ?_;refine yz (k + 1) (hI := yd)
 ·obtain rfl : k = f.length := by omega
  have hV := zvt f F r;apply X.exit;refine ⟨.inl rfl, _, true, rfl, fun _ => hV⟩
theorem zfl (F : List (List (List Sg))) : ∀ (r : List Sg), F.length <= 1000000 -> r.length + 2 * F.length <= 100000 -> (∀ f ∈ F, f.length <= 1000000 /\ ∀ s ∈ f, s.length <= 2) -> It Tryz.prog 84 [.ept (fun _ : Unit => [chsA F]) () 0, .ept (fun _ : Unit => [sgsA r]) () 0] (wuX F r) := by
 induction F with
 | nil => exact fun r _ _ _ => zdm r
 | cons f F ih =>
  intro r h1 h2 h3;rw [List.length_cons] at h1 h2;have h4 := h3 f List.mem_cons_self;refine zc0 r (f :: F) F f rfl rfl (by rw [List.length_cons]; omega) (by rw [List.length_cons]; omega) (by omega) h4.1 (fun s hs => by have := h4.2 s hs; omega) (fun s hs => ih (r ++ s) (by omega) (by have := h4.2 s hs; rw [List.length_append]; omega) (fun f' hf' => h3 f' (List.mem_cons_of_mem _ hf')))
end
section
end
section
def fmL (m : Mn) (l : List Bt) (h : Hb) : List (List (List Sg)) := l.map fun b => fmV m b h
theorem zvu {m : Mn} {l : List Bt} {h : Hb} {k : Nat} {b : Bt} (hi : l[k]? = some b) : fmL m (l.take k) h ++ [fmV m b h] = fmL m (l.take (k + 1)) h := by
 unfold fmL; rw [List.take_add_one, hi]; simp
theorem zgv (m : Mn) (l : List Bt) (h : Hb) : (fmL m l h).length = l.length := by unfold fmL; simp
theorem zs5 (m : Mn) (b : Bt) (h : Hb) : (fmV m b h).length <= 32 /\ ∀ s ∈ fmV m b h, s.length <= 2 := by
 unfold fmV;split
 ·exact ⟨zdY m b h, fun s hs => (zj3 hs).2⟩
 ·exact ⟨by simp, fun s hs => by simp at hs⟩
theorem zk2 (m : Mn) (l : List Bt) (h : Hb) : ∀ f ∈ fmL m l h, f.length <= 1000000 /\ ∀ s ∈ f, s.length <= 2 := fun f hf => by
 unfold fmL at hf;obtain ⟨b, _, rfl⟩ := List.mem_map.1 hf;have := zs5 m b h;exact ⟨by omega, this.2⟩
theorem zl6 (F : List (List (List Sg))) : ∀ (r x : List Sg), (∀ f ∈ F, ∀ s ∈ f, s.length <= 2) -> x ∈ wuL F r -> x.length <= r.length + 2 * F.length := by
 induction F with
 | nil => intro r x _ hx; unfold wuL at hx; rw [List.mem_singleton.1 hx]; simp
 | cons f F ih =>
  intro r x h hx;unfold wuL at hx;obtain ⟨s, hs, hx⟩ := List.mem_flatMap.1 hx;have h1 := ih (r ++ s) x (fun f' hf' => h f' (List.mem_cons_of_mem _ hf')) hx;have h2 := h f List.mem_cons_self s hs;rw [List.length_append] at h1;rw [List.length_cons]; omega
theorem zvv {b : Bool} (h : (b == true) = false) : b = false := by cases b <;> simp_all
def wyL (m : Mn) (l : List Bt) (h : Hb) : List (List Sg) := (wuL (fmL m l h) []).filter fun x => reQ m x (durB l)
def wyX (m : Mn) (l : List Bt) (h : Hb) : List (List AV) := (wyL m l h).map fun x => [sgsA x]
def wyK (m : Mn) (l : List Bt) (h : Hb) (j : Nat) : Nat := (((wuL (fmL m l h) []).take j).filter fun x => reQ m x (durB l)).length
theorem zd4 {m : Mn} {l : List Bt} {h : Hb} {j : Nat} {zs : List AV} (e : (wyX m l h)[j]? = some zs) : ∃ x, (wyL m l h)[j]? = some x /\ zs = [sgsA x] := by
 rw [wyX, List.getElem?_map] at e;cases hk : (wyL m l h)[j]? with
 | none => simp [hk] at e
 | some k => simp [hk] at e; exact ⟨k, rfl, e.symm⟩
theorem zvw (m : Mn) (l : List Bt) (h : Hb) : 0 = wyK m l h 0 := by unfold wyK; simp
theorem zs6 {m : Mn} {l : List Bt} {h : Hb} {j : Nat} {x : List Sg} (hx : (wuL (fmL m l h) [])[j]? = some x) (hq : reQ m x (durB l) = true) : (wyX m l h)[wyK m l h j]? = some [sgsA x] /\ wyK m l h (j + 1) = wyK m l h j + 1 := by
 constructor
 ·unfold wyX wyL wyK;have h1 := List.getElem?_eq_some_iff.1 hx;have e : wuL (fmL m l h) [] = (wuL (fmL m l h) []).take j ++ x :: (wuL (fmL m l h) []).drop (j + 1) := by rw [← h1.2, ← List.drop_eq_getElem_cons h1.1, List.take_append_drop]
  have e2 : (wuL (fmL m l h) []).filter (fun x => reQ m x (durB l)) = ((wuL (fmL m l h) []).take j).filter (fun x => reQ m x (durB l)) ++ x :: ((wuL (fmL m l h) []).drop (j + 1)).filter fun x => reQ m x (durB l) := by
   conv => lhs; rw [e]
   simp only [List.filter_append, List.filter_cons, hq, if_true]
  rw [e2, List.getElem?_map, List.getElem?_append_right (by omega)]; simp
 ·unfold wyK; rw [List.take_add_one, hx]; simp [hq]
theorem zvx {m : Mn} {l : List Bt} {h : Hb} {j : Nat} {x : List Sg} (hx : (wuL (fmL m l h) [])[j]? = some x) (hq : ¬ reQ m x (durB l) = true) : wyK m l h (j + 1) = wyK m l h j := by
 unfold wyK; rw [List.take_add_one, hx]; simp [hq]
theorem zs7 (m : Mn) (l : List Bt) (h : Hb) : wyK m l h (wuX (fmL m l h) []).length = (wyX m l h).length := by
 unfold wyK wuX wyX wyL; rw [List.length_map, List.length_map, List.take_length]
attribute [local irreducible] Pur yr yw Ex X Fn Imp LeV LeB FnO It yx FnW FnOW FnP FnD
attribute [local irreducible] wuX wuL wyX wyL wyK fmL fmV durB wcE wcnE wcnV rdE rdV
theorem za3 (l : List Sg) (hl : l.length <= 1000000) : Fn Tryz.prog 47 [sgsA l] (sgsA l) := by
 refine Fn.go Tryz.func47 Tryz.ntmps47 (fun g w d => ?_);apply yg;refine yu ?_;apply yl;apply yg;refine ya ?_;refine zs3 (fun bn hbn => ?_) Tryz.underlying27;refine gd ?_ ?_<;>intro hc1
 ·have hl0 : l = [] := by
   cases l with
   | nil => rfl
   | cons x r => rw [hbn (by simp)] at hc1; cases hc1
  apply yg;refine yu ?_;refine X.ret ?_;refine RetQ.imp (ye (ts := [(2, sgsA [])]) (hs := [])) ?_;refine gq ?_;all_goals (first | exact congrArg (fun z => sgsA z) hl0.symm | rfl)
 refine gq ?_;refine yJ sgE [] ?_;refine ya ?_;refine Ex.mo ?_;refine yu ?_;refine X.ret ?_;refine RetQ.imp (Imp.freeze (k := 5) rfl) ?_;refine gq ?_;all_goals (first | exact congrArg (fun z => sgsA z) hl0.symm | rfl)
set_option maxHeartbeats 4000000 in
theorem zbf (m : Mn) (z : List Bt) (hb0 : Hb) (hl : z.length <= 100) : It Tryz.prog 63 [.ept (fun _ : Unit => [btsA z]) () 0, .ept (fun _ : Unit => mnE m) () 0, .ept (fun _ : Unit => hbE hb0) () 0] (wyX m z hb0) := by
 have hz0 : [] = fmL m (z.take 0) hb0 := by unfold fmL; rfl
 have hk0 := zvw m z hb0;refine It.intro (ts := fun lY => [(0, .yv lY), (1, .ept (fun _ : Unit => [btsA z]) () 0), (2, .ept (fun _ : Unit => mnE m) () 0), (3, .ept (fun _ : Unit => hbE hb0) () 0)]) (n := 45) (by kernel_rfl) Tryz.func63 rfl Tryz.ntmps63 rfl (fun _ => rfl) (by simp) (fun g w d ds Y lY hY => ?_);apply yg;refine zbB ?_;apply yI;refine yu ?_;iterate 2 apply yl
 refine X.imp (yL zhe 55 1 5 30 rfl rfl) ?_;refine gq ?_
 refine yS (ι := Nat) (fun (k : Nat) => [(1, .ept (fun _ : Unit => [btsA z]) () 0), (2, .ept (fun _ : Unit => mnE m) () 0), (3, .ept (fun _ : Unit => hbE hb0) () 0), (4, .ptr 4 0 0 0), (5, .own 30), (12, btsA z), (13, iv (z.length : Int)), (14, iv (k : Int))]) (fun (k : Nat) => [(4, .box [.yv lY] 107), (1000000, .yld (wyK m z hb0 0) true), (30, .row zhe (fmL m (z.take k) hb0) 55 1)]) (fun (k : Nat) => k <= z.length) (fun (k : Nat) => z.length - k) 0 (fun k hk => ?_) (hJ := by
  exact Nat.zero_le _) (h0 := by
  exact yd)
 refine gd ?_ ?_<;>intro hc1
 ·obtain ⟨b, hb⟩ : ∃ b, z[k]? = some b := ⟨_, lgg (by omega)⟩;have hb2 : z[(k : Int).toNat]? = some b := by simpa using hb
  have hst := zvu (m := m) (h := hb0) hb;have hlt : (fmL m (z.take k) hb0).length <= 1000 := by rw [zgv, List.length_take]; omega
  refine gq ?_;refine yb (zhZ m b hb0) ?_;refine gq ?_;refine yJ zhe [fmV m b hb0] ?_;refine gq ?_;refine yz (k + 1) (hI := yd)
 ·obtain rfl : k = z.length := by omega
  have hV : fmL m (z.take z.length) hb0 = fmL m z hb0 := by rw [List.take_length]
  have hVl := zgv m z hb0;refine gq ?_;refine yb (zgf z (by omega)) ?_;refine zB ?_;refine Ex.mo ?_;apply yI;refine ya ?_;refine Ex.imp (Imp.freeze (k := 30) rfl) ?_;refine Ex.stepA (zb6 rfl rfl rfl (.cons (LeV.nils _) (.cons (LeV.eq (congrArg (fun y => chsA y) hV)) .nil)) (zde [] (fmL m z hb0))) rfl rfl ?_;refine gq ?_;refine X.range (sl := [1, 2, 3, 4, 10]) (fun j => ([.ept (fun _ : Unit => [btsA z]) () 0, .ept (fun _ : Unit => mnE m) () 0, .ept (fun _ : Unit => hbE hb0) () 0, .ptr 4 0 0 0, .ptr 10 0 0 0], [(4, .box [.yv lY] 107), (10, .box [tmsA (durB z)] 54), (1000000, .yld (wyK m z hb0 j) true)])) (fun j => True) 900001 900002 rfl rfl (by decide) (fun j zs hj => by obtain ⟨_, _, rfl⟩ := zd3 hj; rfl) ((zfl (fmL m z hb0) [] (by omega) (by simp; omega) (zk2 m z hb0))) trivial rfl rfl (by decide) (Nat.le_refl _) (by simp) (fun j zs hj => by obtain ⟨_, _, rfl⟩ := zd3 hj; rfl) (fun _ => rfl) rfl rfl (fun l o us => ye) (trivial) (fun j zs hj hJ l ready busy rb vs g w hb hyB => ?_) (fun hJ => ?_)
  ·have hZ1 := zd3 hj;obtain ⟨x, hx, rfl⟩ := hZ1;have hxl := zl6 (fmL m z hb0) [] x (fun f hf => (zk2 m z hb0 f hf).2) (List.mem_of_getElem? hx);rw [List.length_nil, zgv] at hxl;apply ym;refine yu ?_;refine ⟨rfl, rfl, ?_⟩;refine gq ?_;refine yb (zcX m x (durB z) (by omega)) ?_;refine ya ?_;refine zkf (t := 39) true rfl (fun hg4 => ?_) (fun hg4 => ?_)
   ·(iterate 2 refine zM ?_);have hq0 : reQ m x (durB z) = true := by unfold reQ; simpa using hg4
    have hZ2 := zs6 hx hq0;obtain ⟨hq1, hq2⟩ := hZ2;refine zbl hY rfl rfl rfl (fun _ => ⟨_, _, rfl, rfl, rfl, LeL.refl _, rfl, rfl, hq1, fun b => ?_⟩) (fun h => absurd (h.symm.trans hg4) (by decide));refine zM ?_;first | refine ya (hs := zc6 rfl (zvv hg4) rfl) ?_ | refine ya ?_
    refine gd ?_ ?_<;>intro hc2
    ·subst hc2;refine X.ret ?_;refine ⟨[.ept (fun _ : Unit => [btsA z]) () 0, .ept (fun _ : Unit => mnE m) () 0, .ept (fun _ : Unit => hbE hb0) () 0, .ptr 4 0 0 0, .ptr 10 0 0 0], [(4, .box [.yv lY] 107), (10, .box [tmsA (durB z)] 54), (1000000, .yld (wyK m z hb0 j) false)], ye, ?_⟩;refine ⟨.inr rfl, _, false, rfl, fun hb => by simp at hb⟩
    subst hc2;apply yp;refine ⟨[.ept (fun _ : Unit => [btsA z]) () 0, .ept (fun _ : Unit => mnE m) () 0, .ept (fun _ : Unit => hbE hb0) () 0, .ptr 4 0 0 0, .ptr 10 0 0 0], [(4, .box [.yv lY] 107), (10, .box [tmsA (durB z)] 54), (1000000, .yld (wyK m z hb0 (j + 1)) true)], ye, rfl, trivial⟩
   ·refine zaT ?_;(iterate 3 refine zaT ?_);first | refine ya (hs := zc6 rfl (zvv hg4) rfl) ?_ | refine ya ?_
    refine gd ?_ ?_<;>intro hc3
    ·exact absurd hc3 (by decide)
    have hq0 : ¬ reQ m x (durB z) = true := by unfold reQ; simpa using hg4
    have hq2 := zvx hx hq0;apply yp;refine ⟨[.ept (fun _ : Unit => [btsA z]) () 0, .ept (fun _ : Unit => mnE m) () 0, .ept (fun _ : Unit => hbE hb0) () 0, .ptr 4 0 0 0, .ptr 10 0 0 0], [(4, .box [.yv lY] 107), (10, .box [tmsA (durB z)] 54), (1000000, .yld (wyK m z hb0 (j + 1)) true)], ye, rfl, trivial⟩
  refine ⟨.inl rfl, _, true, rfl, fun _ => zs7 m z hb0⟩
end
section
def wlV (m : Mn) (l : List Bt) (h : Hb) : List (List Sg) := if wcnE m l h = 0 then wyL m l h else []
theorem zjp {m : Mn} {l : List Bt} {h : Hb} (e : wcnE m l h = 0) : l.length <= 12 := by
 apply Classical.byContradiction;intro hn;by_cases c : wcE m l = 0
 ·have := (zlW (h := h) c (by omega)).1; omega
 ·have := (zlV (h := h) c).1; omega
theorem zl7 {m : Mn} {l : List Bt} {h : Hb} {x : List Sg} (hx : x ∈ wyL m l h) : x.length <= 2 * l.length := by
 unfold wyL at hx;have := zl6 (fmL m l h) [] x (fun f hf => (zk2 m l h f hf).2) (List.mem_filter.1 hx).1;rw [zgv] at this; simpa using this
theorem zs8 (m : Mn) (h : Hb) : ∀ (l : List Bt) (r : List Sg), (wuL (fmL m l h) r).length <= cnP m h l := by
 intro l
 induction l with
 | nil => intro r; unfold fmL wuL cnP; simp
 | cons b l ih =>
  intro r;have e : fmL m (b :: l) h = fmV m b h :: fmL m l h := by unfold fmL; rfl
  rw [e];unfold wuL;rw [List.length_flatMap]
  have h1 : ∀ L : List (List Sg), (L.map fun x => (wuL (fmL m l h) (r ++ x)).length).sum <= L.length * cnP m h l := by
   intro L
   induction L with
   | nil => simp
   | cons y L ih2 =>
    rw [List.map_cons, List.sum_cons, List.length_cons, Nat.succ_mul];have := ih (r ++ y);omega
  refine Nat.le_trans (h1 _) ?_
  have h2 : (fmV m b h).length <= (frV m b h).length := by
   unfold fmV; split
   ·exact Nat.le_refl _
   ·simp
  exact Nat.le_trans (Nat.mul_le_mul_right _ h2) (Nat.le_refl _)
theorem zou {m : Mn} {l : List Bt} {h : Hb} (e : wcnE m l h = 0) : (wyL m l h).length <= 4096 := by
 have h1 := zs8 m h l [];have h2 : (wyL m l h).length <= (wuL (fmL m l h) []).length := by unfold wyL; exact List.length_filter_le _ _
 have h3 : cnP m h l <= 4096 := by
  apply Classical.byContradiction;intro hn;by_cases c : wcE m l = 0
  ·by_cases c2 : 12 < l.length
   ·have := (zlW (h := h) c c2).1; omega
   ·have := (zob (h := h) c c2 (by omega)).1; omega
  ·have := (zlV (h := h) c).1; omega
 omega
theorem zk3 {l : List (List Sg)} {j : Nat} {x : List Sg} (h : l[j]? = some x) : l.take j ++ [x] = l.take (j + 1) := by
 rw [List.take_add_one, h]; rfl
theorem zs9 (m : Mn) (l : List Bt) (h : Hb) : (wyL m l h).take (wyX m l h).length = wyL m l h := by
 unfold wyX; rw [List.length_map, List.take_length]
attribute [local irreducible] Pur yr yw Ex X Fn Imp LeV LeB FnO It yx FnW FnOW FnP FnD
attribute [local irreducible] wuX wuL wyX wyL wyK fmL fmV durB wcE wcnE wcnV rdE rdV
theorem zby (m : Mn) (z : List Bt) (q : Hb) : Fn Tryz.prog 46 [mnA m, btsA z, hbA q] (.fn 63 [.ept (fun _ : Unit => [btsA z]) () 0, .ept (fun _ : Unit => mnE m) () 0, .ept (fun _ : Unit => hbE q) () 0]) := by
 refine Fn.go Tryz.func46 Tryz.ntmps46 (fun g w d => ?_);refine gq ?_;refine zbB ?_;refine zaS ?_;refine ya ?_;apply yI;refine zm ?_;refine X.ret ?_;refine RetQ.imp (((yR (k := 3) rfl rfl).trans (yR (k := 4) rfl rfl)).trans (yR (k := 5) rfl rfl)) ?_;refine gq ?_;all_goals (first | rfl | (simp_all; done))
set_option maxHeartbeats 2000000 in
theorem zan (m : Mn) (z : List Bt) (q : Hb) (hl : z.length <= 4000000000) : Fn Tryz.prog 24 [mnA m, btsA z, hbA q] (.tup [zF (wlV m z q), iv (wcnE m z q)]) := by
 refine Fn.go Tryz.func24 Tryz.ntmps24 (fun g w d => ?_);refine gq ?_;refine yb (zcq m z q hl) ?_;refine gd ?_ ?_<;>intro hc1
 ·have hV : wlV m z q = [] := by unfold wlV; rw [if_neg hc1]
  apply yg;refine zh ?_;refine X.ret ?_;refine RetQ.imp (ye (ts := [(6, zF []), (7, iv (wcnE m z q))]) (hs := [])) ?_;refine yi ?_ ?_;all_goals (first | (rw [hV]; done) | exact congrArg (fun y => zF y) (htl.trans hV.symm) | exact congrArg (AV.int .i64) h0.symm | rfl)
 have h0 : wcnE m z q = 0 := by omega
 have hV : wlV m z q = wyL m z q := by unfold wlV; rw [if_pos h0]
 have hz12 := zjp h0;have hcn := zou h0;have htl := zs9 m z q;apply yp;apply yg;refine zB ?_;apply Ex.nil;iterate 2 apply yl
 refine X.imp (zaM sgsE 27 1 10 39 55 rfl rfl) ?_;refine gq ?_;refine yb (zby m z q) ?_;apply Ex.nil;apply X.block;have ht0 : [] = (wyL m z q).take 0 := by simp
 refine X.range (sl := [10]) (fun j => ([.ptr 10 0 0 0], [(10, .box [.own 39] 55), (39, .row sgsE ((wyL m z q).take j) 27 1)])) (fun j => True) 900001 900002 rfl rfl (by decide) (fun j zs hj => by obtain ⟨i, _, rfl⟩ := zd4 hj; rfl) ((zbf m z q (by omega))) trivial rfl rfl (by decide) (Nat.zero_le _) (by simp) (fun j zs hj => by obtain ⟨i, _, rfl⟩ := zd4 hj; rfl) (fun _ => rfl) rfl rfl (fun l o us => ye) (trivial) (fun j zs hj hJ l ready busy rb vs g w hb hyB => ?_) (fun hJ => ?_)
 ·have hZ1 := zd4 hj;obtain ⟨x, hi, rfl⟩ := hZ1;have hst := zk3 hi;have hxl := zl7 (List.mem_of_getElem? hi);have hnn : ((wyL m z q).take j).length <= 4096 := by rw [List.length_take]; omega
  apply ym;refine yu ?_;refine ⟨rfl, rfl, ?_⟩;apply X.block;refine zf [27,28,29,30] [0,0,2,6,15,31] mo ?_;iterate 2 refine yc ?_
  refine yM (za3 x (by omega)) ?_;refine ChM.step rfl rfl rfl (zac (enc := sgsE) (l := [x]) sl55 ty27 ze27) rfl ?_;refine yE ?_;iterate 2 refine Ex.mo ?_
  apply Ex.nil;refine ⟨[.ptr 10 0 0 0], [(10, .box [.own 39] 55), (39, .row sgsE ((wyL m z q).take (j + 1)) 27 1)], ye, rfl, trivial⟩
 apply yg;refine zh ?_;refine X.ret ?_;refine RetQ.imp (Imp.freeze (k := 39) rfl) ?_;refine yi ?_ ?_;all_goals (first | (rw [hV]; done) | exact congrArg (fun y => zF y) (htl.trans hV.symm) | exact congrArg (AV.int .i64) h0.symm | rfl)
theorem zcG (m : Mn) (z : List Bt) (q : Hb) (hl : z.length <= 4000000000) : Fn Tryz.prog 23 [mnA m, btsA z, hbA q] (.tup [iv ((wlV m z q).length : Int), iv (wcnE m z q)]) := by
 refine Fn.go Tryz.func23 Tryz.ntmps23 (fun g w d => ?_);refine gq ?_;refine yb (zan m z q hl) ?_;refine gq ?_;refine yi ?_ ?_;all_goals (first | rfl | (simp_all; done))
end
end Go.Rse
