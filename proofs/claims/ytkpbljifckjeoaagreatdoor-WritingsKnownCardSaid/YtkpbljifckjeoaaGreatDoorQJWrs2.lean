/-
  Walks: slices.Grow of nil, slices.Concat.
-/
import Derived.Test.YtkpbljifckjeoaaGreatDoorQJRul7
import Derived.Test.YtkpbljifckjeoaaGreatDoorQLogB
import Derived.Test.YtkpbljifckjeoaaGreatDoorQJSlc2
import Derived.Test.YtkpbljifckjeoaaGreatDoorQJColor1
set_option linter.unusedSimpArgs false
set_option linter.unusedVariables false
namespace Go.Rse
open Go Go.Proofs
def flK (L : List (List Sg)) (k : Nat) : List Sg := (L.take k).flatten
theorem zpo {L : List (List Sg)} {k : Nat} {s : List Sg} (h : L[k]? = some s) : flK L k ++ s = flK L (k + 1) := by
 unfold flK; rw [List.take_add_one, h]; simp
theorem zr9 (L : List (List Sg)) : [] = flK L 0 := rfl
theorem zsa (L : List (List Sg)) : flK L L.length = L.flatten := by unfold flK; rw [List.take_length]
theorem zjL (L : List (List Sg)) (k : Nat) : (flK L k).length <= L.flatten.length := by
 have : L.flatten = (L.take k).flatten ++ (L.drop k).flatten := by rw [← List.flatten_append, List.take_append_drop]
 unfold flK; rw [this, List.length_append]; omega
attribute [local irreducible] Pur yC yE Ex X Fn Imp LeV LeB FnO It yJ FnW FnOW FnP FnD
attribute [local irreducible] flK
theorem za5 (n : Int) (h0 : 0 <= n) (hn : n <= 1000000) : FnO Tryz.prog 115 [.nils, iv n] [] [] (.own 5) [(5, .row sgE [] 41 17)] := by
 refine FnO.intro (ts := [(0, .nils), (1, iv n)]) (rv := [.tmp 4]) (n := 27) (cs := []) (by kernel_rfl) Tryz.func115 rfl Tryz.ntmps115 rfl rfl (by simp) rfl rfl rfl rfl (fun g w d vs => ?_);apply yb;refine ye ?_;apply yd;apply yb;refine yg ?_;refine yl rfl ?_ ?_<;>intro hc1
 ·omega
 apply yf;apply yd;apply yb;iterate 2 refine ya ?_
 refine ya (hs := zf8 rfl SlK.h) ?_;iterate 5 refine ya ?_
 apply yi;refine yg ?_;refine yl rfl ?_ ?_<;>intro hc2
 ·apply yc;iterate 2 refine ya ?_
  refine ya (hs := zf8 rfl SlK.h) ?_;refine ya (hs := ziR rfl rfl SlK.h TyK.h) ?_;refine ya ?_;refine Ex.stepA (znO (k := 5) (n := n.toNat) SlK.h Tryz.underlying3 TiK.h (by decide) (by decide) rfl rfl (by omega) (by omega) (by omega)) rfl rfl ?_;iterate 2 refine ya ?_
  refine z7 (zmR rfl rfl rfl SlK.h TyK.h (by omega) (by simp; omega) rfl) ?_;refine ya ?_;apply yi;refine yg ?_;refine X.ret ?_;refine zkR.imp (zml (enc := anyE 17) (l := (List.replicate n.toNat ()).take (0 : Int).toNat) sgE 5 41 17 (by exact rfl) (by simp)) ?_;refine zkR.mk (ts := [(4, .own 5)]) (.inr rfl) (yn) (.one (.tmp rfl (LeV.eq rfl)))
 ·apply yf;apply yb;refine yg ?_;refine X.ret ?_;refine zkR.imp (ze sgE 41 17 4 5 rfl rfl) ?_;refine zkR.mk (ts := [(4, .own 5)]) (.inr rfl) (yn) (.one (.tmp rfl (LeV.eq rfl)))
set_option maxHeartbeats 1000000 in
theorem zaO (L : List (List Sg)) (hL : L.length <= 1000000) (hf : L.flatten.length <= 1000000) : Fn Tryz.prog 85 [z8 L] (sgsA L.flatten) := by
 have hz0 : [] = flK L 0 := zr9 L;have hz1 : (0 : Int) = ((flK L 0).length : Int) := by rw [← hz0]; rfl
 refine Fn.go Tryz.func85 Tryz.ntmps85 (fun g w d => ?_);apply yb;refine ya ?_;apply yi;refine ye ?_;apply yd;apply yb;refine yo ?_;apply X.block
 refine zl (ι := Nat) (fun (k : Nat) => [(0, z8 L), (2, .nils), (3, iv ((flK L k).length : Int)), (9, z8 L), (10, iv (L.length : Int)), (11, iv (k : Int))]) (fun (k : Nat) => []) (fun (k : Nat) => k <= L.length) (fun (k : Nat) => L.length - k) 0 (fun k hk => ?_) (h0 := by
  exact yq)
 apply yb;refine ye ?_;apply yd;refine yl rfl ?_ ?_<;>intro hc1
 ·obtain ⟨s, hs⟩ : ∃ s, L[k]? = some s := ⟨_, lgg (by omega)⟩;have hs2 : L[(k : Int).toNat]? = some s := by simpa using hs
  have hst := zpo hs;have hle := zjL L (k + 1);have hsl : ((flK L (k + 1)).length : Int) = ((flK L k).length : Int) + (s.length : Int) := by rw [← hst]; simp
  apply yf;apply yd;apply X.block;apply yb;iterate 3 refine ya ?_
  apply yi;iterate 5 refine ya ?_
  apply yi;refine yg ?_;refine yl rfl ?_ ?_<;>intro hc2
  ·omega
  apply yf;apply yc;refine yg ?_;refine yM (k + 1) (hI := yq)
 ·obtain rfl : k = L.length := by omega
  apply X.exit;apply yb;refine ya ?_;refine zaA [(5, 30)] (za5 ((flK L L.length).length : Int) (by omega) (by have := zjL L L.length; omega)) ?_;refine ye ?_;apply yd;apply yb;refine yo ?_;apply X.block
  refine zl (ι := Nat) (fun (k : Nat) => [(2, .nils), (6, .own 30), (25, z8 L), (26, iv (L.length : Int)), (27, iv (k : Int))]) (fun (k : Nat) => [(30, .row sgE (flK L k) 41 17)]) (fun (k : Nat) => k <= L.length) (fun (k : Nat) => L.length - k) 0 (fun k hk => ?_) (hJ := by
   exact Nat.zero_le _) (h0 := by
   exact yq)
  apply yb;refine ye ?_;apply yd;refine yl rfl ?_ ?_<;>intro hc3
  ·obtain ⟨s, hs⟩ : ∃ s, L[k]? = some s := ⟨_, lgg (by omega)⟩;have hs2 : L[(k : Int).toNat]? = some s := by simpa using hs
   have hst := zpo hs;have hle := zjL L (k + 1);have hsl : ((flK L (k + 1)).length : Int) = ((flK L k).length : Int) + (s.length : Int) := by rw [← hst]; simp
   apply yf;apply yd;apply X.block;apply yb;refine yo ?_;apply yc;(iterate 2 refine ya ?_);refine z7 (zff (l := flK L k) (l2 := s) rfl rfl rfl SlK.h TiK.h (by decide) (by decide) (fun _ => rfl) (fun _ => rfl) (by omega) rfl) ?_;refine ye ?_;apply yc;refine yg ?_;refine yM (k + 1) (hI := yq)
  ·obtain rfl : k = L.length := by omega
   have hV := zsa L;apply X.exit;apply yb;refine yg ?_;refine X.ret ?_;refine RetQ.imp (Imp.freeze (k := 30) rfl) ?_;refine yh ?_;all_goals (first | exact congrArg (fun z => sgsA z) hV | rfl)
end Go.Rse
namespace Go.Rse
open Go Go.Proofs
def wuL : List (List (List Sg)) -> List Sg -> List (List Sg)
 | [], r => [r]
 | f :: F, r => f.flatMap fun x => wuL F (r ++ x)
def wuX (F : List (List (List Sg))) (r : List Sg) : List (List AV) := (wuL F r).map fun x => [sgsA x]
def wuK (f : List (List Sg)) (F : List (List (List Sg))) (r : List Sg) (k : Nat) : Nat := ((f.take k).flatMap fun x => wuL F (r ++ x)).length
theorem zdy {F : List (List (List Sg))} {r : List Sg} {j : Nat} {zs : List AV} (h : (wuX F r)[j]? = some zs) : ∃ x, (wuL F r)[j]? = some x /\ zs = [sgsA x] := by
 rw [wuX, List.getElem?_map] at h;cases hk : (wuL F r)[j]? with
 | none => simp [hk] at h
 | some k => simp [hk] at h; exact ⟨k, rfl, h.symm⟩
theorem zqt (r : List Sg) : (wuX [] r)[0]? = some [sgsA r] := rfl
theorem zmz {f : List (List Sg)} {F : List (List (List Sg))} {r s : List Sg} {k : Nat} (h : f[k]? = some s) : wuL (f :: F) r = (f.take k).flatMap (fun x => wuL F (r ++ x)) ++ (wuL F (r ++ s) ++ (f.drop (k + 1)).flatMap fun x => wuL F (r ++ x)) := by
 have h1 := List.getElem?_eq_some_iff.1 h;have e : f = f.take k ++ s :: f.drop (k + 1) := by rw [← h1.2, ← List.drop_eq_getElem_cons h1.1, List.take_append_drop]
 show f.flatMap _ = _;conv => lhs; rw [e]
 rw [List.flatMap_append, List.flatMap_cons]
theorem zsb {f : List (List Sg)} {F : List (List (List Sg))} {r s x : List Sg} {k j : Nat} (h : f[k]? = some s) (hx : (wuL F (r ++ s))[j]? = some x) : (wuX (f :: F) r)[wuK f F r k + j]? = some [sgsA x] := by
 unfold wuX;rw [List.getElem?_map, zmz h, List.getElem?_append_right (by unfold wuK; omega)];have h2 := (List.getElem?_eq_some_iff.1 hx).1;rw [List.getElem?_append_left (by unfold wuK; omega)];have : wuK f F r k + j - ((f.take k).flatMap fun x => wuL F (r ++ x)).length = j := by unfold wuK; omega
 rw [this, hx]; rfl
theorem zsc (f : List (List Sg)) (F : List (List (List Sg))) (r : List Sg) : 0 = wuK f F r 0 := by unfold wuK; simp
theorem zsd {f : List (List Sg)} {F : List (List (List Sg))} {r s : List Sg} {k : Nat} (h : f[k]? = some s) : wuK f F r k + (wuX F (r ++ s)).length = wuK f F r (k + 1) := by
 unfold wuK wuX;rw [List.take_add_one, h, List.flatMap_append, List.length_append, List.length_map]; simp
theorem zse (f : List (List Sg)) (F : List (List (List Sg))) (r : List Sg) : wuK f F r f.length = (wuX (f :: F) r).length := by
 unfold wuK wuX; rw [List.length_map, List.take_length]; rfl
attribute [local irreducible] Pur yC yE Ex X Fn Imp LeV LeB FnO It yJ FnW FnOW FnP FnD
attribute [local irreducible] wuX wuK wuL
theorem zcL (r : List Sg) (F : List (List (List Sg))) : Fn Tryz.prog 66 [sgsA r, chsA F] (.fn 84 [.ept (fun _ : Unit => [chsA F]) () 0, .ept (fun _ : Unit => [sgsA r]) () 0]) := by
 refine Fn.go Tryz.func66 Tryz.ntmps66 (fun g w d => ?_);apply yb;iterate 2 refine zbr ?_
 refine ya ?_;apply yi;refine yg ?_;refine X.ret ?_;refine RetQ.imp ((yT (k := 2) rfl rfl).trans (yT (k := 3) rfl rfl)) ?_;refine yh ?_;all_goals (first | rfl | (simp_all; done))
theorem zcR (r : List Sg) : It Tryz.prog 84 [.ept (fun _ : Unit => [chsA []]) () 0, .ept (fun _ : Unit => [sgsA r]) () 0] (wuX [] r) := by
 refine It.intro (ts := fun lY => [(0, .yv lY), (1, .ept (fun _ : Unit => [chsA []]) () 0), (2, .ept (fun _ : Unit => [sgsA r]) () 0)]) (n := 34) (by kernel_rfl) Tryz.func84 rfl Tryz.ntmps84 rfl (fun _ => rfl) (by simp) (fun g w d ds Y lY hY => ?_);apply yb;refine zbr ?_;apply Ex.nil;apply yd;apply yb;refine yo ?_;refine yl rfl ?_ ?_<;>intro hc1
 ·apply yb;iterate 2 refine ya ?_
  refine Ex.yield hY rfl rfl rfl (LeL.refl _) rfl rfl (zqt r) rfl (fun b => ?_);apply Ex.nil;refine X.ret ?_;refine ⟨.inr rfl, _, b, rfl, fun hb => by subst hb; unfold wuX wuL; rfl⟩
 simp at hc1
set_option maxHeartbeats 2000000 in
theorem zcx (r : List Sg) (G F : List (List (List Sg))) (f : List (List Sg)) (hG0 : G[(0 : Int).toNat]? = some f) (hGd : G.drop (1 : Int).toNat = F) (hGl : 0 < G.length) (hG9 : G.length <= 1000000) (hr : r.length <= 100000) (hf : f.length <= 1000000) (hF : ∀ s ∈ f, s.length <= 100000) (ih : ∀ s ∈ f, It Tryz.prog 84 [.ept (fun _ : Unit => [chsA F]) () 0, .ept (fun _ : Unit => [sgsA (r ++ s)]) () 0] (wuX F (r ++ s))) : It Tryz.prog 84 [.ept (fun _ : Unit => [chsA G]) () 0, .ept (fun _ : Unit => [sgsA r]) () 0] (wuX (f :: F) r) := by
 have hk0 := zsc f F r;refine It.intro (ts := fun lY => [(0, .yv lY), (1, .ept (fun _ : Unit => [chsA G]) () 0), (2, .ept (fun _ : Unit => [sgsA r]) () 0)]) (n := 34) (by kernel_rfl) Tryz.func84 rfl Tryz.ntmps84 rfl (fun _ => rfl) (by simp) (fun g w d ds Y lY hY => ?_);apply yb;refine zbr ?_;apply Ex.nil;apply yd;apply yb;refine yo ?_;refine yl rfl ?_ ?_<;>intro hc1
 ·omega
 apply yf;apply yb;refine zu ?_;apply X.block
 refine zl (ι := Nat) (fun (k : Nat) => [(1, .ept (fun _ : Unit => [chsA G]) () 0), (2, .ept (fun _ : Unit => [sgsA r]) () 0), (3, .ptr 3 0 0 0), (15, z8 f), (16, iv (f.length : Int)), (17, iv (k : Int))]) (fun (k : Nat) => [(3, .box [.yv lY] 107), (1000000, .yld (wuK f F r k) true)]) (fun (k : Nat) => k <= f.length) (fun (k : Nat) => f.length - k) 0 (fun k hk => ?_) (hJ := by
  exact Nat.zero_le _) (h0 := by
  exact yq)
 apply yb;refine ye ?_;apply yd;refine yl rfl ?_ ?_<;>intro hc2
 ·obtain ⟨s, hs⟩ : ∃ s, f[k]? = some s := ⟨_, lgg (by omega)⟩;have hs2 : f[(k : Int).toNat]? = some s := by simpa using hs
  have hks := zsd (F := F) (r := r) hs;have hsl := hF s (List.mem_of_getElem? hs);have hC := zaO [r, s] (by simp) (by simp; omega);rw [show [r, s].flatten = r ++ s by simp] at hC;have hR : Fn Tryz.prog 66 [sgsA (r ++ s), chsA (G.drop (1 : Int).toNat)] (.fn 84 [.ept (fun _ : Unit => [chsA F]) () 0, .ept (fun _ : Unit => [sgsA (r ++ s)]) () 0]) := by rw [hGd]; exact zcL (r ++ s) F
  apply yf;apply yd;apply X.block;apply yb;refine yo ?_;apply yd;refine zz [21,22,23,24,25,26,27] [0,0,3,7,0,16,63] mo ?_;iterate 2 refine yk ?_
  refine ChM.step rfl rfl rfl (yy (enc := sgsE) (l := [r, s]) sl55 ty27 ze27 (by decide) rfl rfl rfl rfl (by decide) (by decide) (fun _ => rfl) rfl) rfl ?_;refine y9 hC ?_;refine yk ?_
  first
   | refine ChM.step rfl rfl rfl (Pur.stepA (zbw rfl rfl rfl zm9 ty55 (by omega) (by omega))) rfl ?_
   | refine ChM.step rfl rfl rfl (Pur.stepA (zdm rfl rfl zm9 ty55 (fun _ => rfl) (by omega) (by omega))) rfl ?_
  refine y9 hR ?_;refine yX ?_;apply Ex.nil;apply X.block;refine X.range (sl := [1, 2, 3, 15, 16, 17]) (fun j => ([.ept (fun _ : Unit => [chsA G]) () 0, .ept (fun _ : Unit => [sgsA r]) () 0, .ptr 3 0 0 0, z8 f, iv (f.length : Int), iv (k : Int)], [(3, .box [.yv lY] 107), (1000000, .yld (wuK f F r k + j) true)])) (fun j => True) 900001 900002 rfl rfl (by decide) (fun j zs hj => by obtain ⟨_, _, rfl⟩ := zdy hj; rfl) ((ih s (List.mem_of_getElem? hs))) trivial rfl rfl (by decide) (Nat.le_refl _) (by simp) (fun j zs hj => by obtain ⟨_, _, rfl⟩ := zdy hj; rfl) (fun _ => rfl) rfl rfl (fun l o us => yn) (trivial) (fun j zs hj hJ l ready busy rb vs g w hb hyB => ?_) (fun hJ => ?_)
  ·have hZ1 := zdy hj;obtain ⟨x, hx, rfl⟩ := hZ1;apply yc;refine ye ?_;refine ⟨rfl, rfl, ?_⟩;apply X.block;apply yb;(iterate 2 refine ya ?_);refine Ex.yield hY rfl rfl rfl (LeL.refl _) rfl rfl (zsb hs hx) rfl (fun b => ?_);refine ye ?_;refine yl rfl ?_ ?_<;>intro hc3
   ·subst hc3;refine X.ret ?_;refine ⟨[.ept (fun _ : Unit => [chsA G]) () 0, .ept (fun _ : Unit => [sgsA r]) () 0, .ptr 3 0 0 0, z8 f, iv (f.length : Int), iv (k : Int)], [(3, .box [.yv lY] 107), (1000000, .yld (wuK f F r k + j) false)], yn, ?_⟩;refine ⟨.inr rfl, _, false, rfl, fun hb => by simp at hb⟩
   subst hc3;apply yf;refine ⟨[.ept (fun _ : Unit => [chsA G]) () 0, .ept (fun _ : Unit => [sgsA r]) () 0, .ptr 3 0 0 0, z8 f, iv (f.length : Int), iv (k : Int)], [(3, .box [.yv lY] 107), (1000000, .yld (wuK f F r k + (j + 1)) true)], yn, rfl, trivial⟩
  apply yc;refine yg ?_;refine yM (k + 1) (hI := yq)
 ·obtain rfl : k = f.length := by omega
  have hV := zse f F r;apply X.exit;refine ⟨.inl rfl, _, true, rfl, fun _ => hV⟩
theorem zey (F : List (List (List Sg))) : ∀ (r : List Sg), F.length <= 1000000 -> r.length + 2 * F.length <= 100000 -> (∀ f ∈ F, f.length <= 1000000 /\ ∀ s ∈ f, s.length <= 2) -> It Tryz.prog 84 [.ept (fun _ : Unit => [chsA F]) () 0, .ept (fun _ : Unit => [sgsA r]) () 0] (wuX F r) := by
 induction F with
 | nil => exact fun r _ _ _ => zcR r
 | cons f F ih =>
  intro r h1 h2 h3;rw [List.length_cons] at h1 h2;have h4 := h3 f List.mem_cons_self;refine zcx r (f :: F) F f rfl rfl (by rw [List.length_cons]; omega) (by rw [List.length_cons]; omega) (by omega) h4.1 (fun s hs => by have := h4.2 s hs; omega) (fun s hs => ih (r ++ s) (by omega) (by have := h4.2 s hs; rw [List.length_append]; omega) (fun f' hf' => h3 f' (List.mem_cons_of_mem _ hf')))
end Go.Rse
namespace Go.Rse
open Go Go.Proofs
end Go.Rse
namespace Go.Rse
open Go Go.Proofs
def fmL (m : Mn) (l : List Bt) (h : Hb) : List (List (List Sg)) := l.map fun b => fmV m b h
theorem zsf {m : Mn} {l : List Bt} {h : Hb} {k : Nat} {b : Bt} (hi : l[k]? = some b) : fmL m (l.take k) h ++ [fmV m b h] = fmL m (l.take (k + 1)) h := by
 unfold fmL; rw [List.take_add_one, hi]; simp
theorem zfF (m : Mn) (l : List Bt) (h : Hb) : (fmL m l h).length = l.length := by unfold fmL; simp
theorem zqu (m : Mn) (b : Bt) (h : Hb) : (fmV m b h).length <= 32 /\ ∀ s ∈ fmV m b h, s.length <= 2 := by
 unfold fmV;split
 ·exact ⟨zh8 m b h, fun s hs => (zl1 hs).2⟩
 ·exact ⟨by simp, fun s hs => by simp at hs⟩
theorem zjM (m : Mn) (l : List Bt) (h : Hb) : ∀ f ∈ fmL m l h, f.length <= 1000000 /\ ∀ s ∈ f, s.length <= 2 := fun f hf => by
 unfold fmL at hf;obtain ⟨b, _, rfl⟩ := List.mem_map.1 hf;have := zqu m b h;exact ⟨by omega, this.2⟩
theorem zkG (F : List (List (List Sg))) : ∀ (r x : List Sg), (∀ f ∈ F, ∀ s ∈ f, s.length <= 2) -> x ∈ wuL F r -> x.length <= r.length + 2 * F.length := by
 induction F with
 | nil => intro r x _ hx; unfold wuL at hx; rw [List.mem_singleton.1 hx]; simp
 | cons f F ih =>
  intro r x h hx;unfold wuL at hx;obtain ⟨s, hs, hx⟩ := List.mem_flatMap.1 hx;have h1 := ih (r ++ s) x (fun f' hf' => h f' (List.mem_cons_of_mem _ hf')) hx;have h2 := h f List.mem_cons_self s hs;rw [List.length_append] at h1;rw [List.length_cons]; omega
theorem zsg {b : Bool} (h : (b == true) = false) : b = false := by cases b <;> simp_all
def wyL (m : Mn) (l : List Bt) (h : Hb) : List (List Sg) := (wuL (fmL m l h) []).filter fun x => reQ m x (durB l)
def wyX (m : Mn) (l : List Bt) (h : Hb) : List (List AV) := (wyL m l h).map fun x => [sgsA x]
def wyK (m : Mn) (l : List Bt) (h : Hb) (j : Nat) : Nat := (((wuL (fmL m l h) []).take j).filter fun x => reQ m x (durB l)).length
theorem zdz {m : Mn} {l : List Bt} {h : Hb} {j : Nat} {zs : List AV} (e : (wyX m l h)[j]? = some zs) : ∃ x, (wyL m l h)[j]? = some x /\ zs = [sgsA x] := by
 rw [wyX, List.getElem?_map] at e;cases hk : (wyL m l h)[j]? with
 | none => simp [hk] at e
 | some k => simp [hk] at e; exact ⟨k, rfl, e.symm⟩
theorem zsh (m : Mn) (l : List Bt) (h : Hb) : 0 = wyK m l h 0 := by unfold wyK; simp
theorem zqv {m : Mn} {l : List Bt} {h : Hb} {j : Nat} {x : List Sg} (hx : (wuL (fmL m l h) [])[j]? = some x) (hq : reQ m x (durB l) = true) : (wyX m l h)[wyK m l h j]? = some [sgsA x] /\ wyK m l h (j + 1) = wyK m l h j + 1 := by
 constructor
 ·unfold wyX wyL wyK;have h1 := List.getElem?_eq_some_iff.1 hx;have e : wuL (fmL m l h) [] = (wuL (fmL m l h) []).take j ++ x :: (wuL (fmL m l h) []).drop (j + 1) := by rw [← h1.2, ← List.drop_eq_getElem_cons h1.1, List.take_append_drop]
  have e2 : (wuL (fmL m l h) []).filter (fun x => reQ m x (durB l)) = ((wuL (fmL m l h) []).take j).filter (fun x => reQ m x (durB l)) ++ x :: ((wuL (fmL m l h) []).drop (j + 1)).filter fun x => reQ m x (durB l) := by
   conv => lhs; rw [e]
   simp only [List.filter_append, List.filter_cons, hq, if_true]
  rw [e2, List.getElem?_map, List.getElem?_append_right (by omega)]; simp
 ·unfold wyK; rw [List.take_add_one, hx]; simp [hq]
theorem zsi {m : Mn} {l : List Bt} {h : Hb} {j : Nat} {x : List Sg} (hx : (wuL (fmL m l h) [])[j]? = some x) (hq : ¬ reQ m x (durB l) = true) : wyK m l h (j + 1) = wyK m l h j := by
 unfold wyK; rw [List.take_add_one, hx]; simp [hq]
theorem zqw (m : Mn) (l : List Bt) (h : Hb) : wyK m l h (wuX (fmL m l h) []).length = (wyX m l h).length := by
 unfold wyK wuX wyX wyL; rw [List.length_map, List.length_map, List.take_length]
attribute [local irreducible] Pur yC yE Ex X Fn Imp LeV LeB FnO It yJ FnW FnOW FnP FnD
attribute [local irreducible] wuX wuL wyX wyL wyK fmL fmV durB wcE wcnE wcnV rdE rdV
theorem zaX (l : List Sg) (hl : l.length <= 1000000) : Fn Tryz.prog 47 [sgsA l] (sgsA l) := by
 refine Fn.go Tryz.func47 Tryz.ntmps47 (fun g w d => ?_);apply yb;refine ye ?_;apply yd;apply yb;refine ya ?_;refine zqh (fun bn hbn => ?_) Tryz.underlying27;apply Ex.nil;refine yl rfl ?_ ?_<;>intro hc1
 ·have hl0 : l = [] := by
   cases l with
   | nil => rfl
   | cons x r => rw [hbn (by simp)] at hc1; cases hc1
  apply yb;refine ye ?_;refine X.ret ?_;refine RetQ.imp (yn (ts := [(2, sgsA [])]) (hs := [])) ?_;refine yh ?_;all_goals (first | exact congrArg (fun z => sgsA z) hl0.symm | rfl)
 apply yf;apply yb;refine yW sgE [] ?_;refine ya ?_;refine Ex.mo ?_;refine ye ?_;refine X.ret ?_;refine RetQ.imp (Imp.freeze (k := 5) rfl) ?_;refine yh ?_;all_goals (first | exact congrArg (fun z => sgsA z) hl0.symm | rfl)
set_option maxHeartbeats 4000000 in
theorem za7 (m : Mn) (z : List Bt) (hb0 : Hb) (hl : z.length <= 100) : It Tryz.prog 63 [.ept (fun _ : Unit => [btsA z]) () 0, .ept (fun _ : Unit => mnE m) () 0, .ept (fun _ : Unit => hbE hb0) () 0] (wyX m z hb0) := by
 have hz0 : [] = fmL m (z.take 0) hb0 := by unfold fmL; rfl
 have hk0 := zsh m z hb0;refine It.intro (ts := fun lY => [(0, .yv lY), (1, .ept (fun _ : Unit => [btsA z]) () 0), (2, .ept (fun _ : Unit => mnE m) () 0), (3, .ept (fun _ : Unit => hbE hb0) () 0)]) (n := 45) (by kernel_rfl) Tryz.func63 rfl Tryz.ntmps63 rfl (fun _ => rfl) (by simp) (fun g w d ds Y lY hY => ?_);apply yb;refine zbr ?_;apply yi;refine ye ?_;iterate 2 apply yd
 refine X.imp (ze zko 55 1 5 30 rfl rfl) ?_;apply yc;refine yo ?_;apply X.block
 refine zl (ι := Nat) (fun (k : Nat) => [(1, .ept (fun _ : Unit => [btsA z]) () 0), (2, .ept (fun _ : Unit => mnE m) () 0), (3, .ept (fun _ : Unit => hbE hb0) () 0), (4, .ptr 4 0 0 0), (5, .own 30), (12, btsA z), (13, iv (z.length : Int)), (14, iv (k : Int))]) (fun (k : Nat) => [(4, .box [.yv lY] 107), (1000000, .yld (wyK m z hb0 0) true), (30, .row zko (fmL m (z.take k) hb0) 55 1)]) (fun (k : Nat) => k <= z.length) (fun (k : Nat) => z.length - k) 0 (fun k hk => ?_) (hJ := by
  exact Nat.zero_le _) (h0 := by
  exact yq)
 apply yb;refine ye ?_;apply yd;refine yl rfl ?_ ?_<;>intro hc1
 ·obtain ⟨b, hb⟩ : ∃ b, z[k]? = some b := ⟨_, lgg (by omega)⟩;have hb2 : z[(k : Int).toNat]? = some b := by simpa using hb
  have hst := zsf (m := m) (h := hb0) hb;have hlt : (fmL m (z.take k) hb0).length <= 1000 := by rw [zfF, List.length_take]; omega
  apply yf;apply yd;apply X.block;apply yb;iterate 2 refine ya ?_
  refine yD ?_;refine Ex.mo ?_;apply yi;iterate 3 refine ya ?_
  refine yj (zgZ m b hb0) ?_;refine zu ?_;apply yc;iterate 2 refine ya ?_
  refine yW zko [fmV m b hb0] ?_;refine Ex.mo ?_;refine ye ?_;apply yc;refine yg ?_;refine yM (k + 1) (hI := yq)
 ·obtain rfl : k = z.length := by omega
  have hV : fmL m (z.take z.length) hb0 = fmL m z hb0 := by rw [List.take_length]
  have hVl := zfF m z hb0;apply X.exit;apply yb;refine ya ?_;refine yj (zft z (by omega)) ?_;refine yD ?_;refine Ex.mo ?_;apply yi;refine ya ?_;refine Ex.imp (Imp.freeze (k := 30) rfl) ?_;refine Ex.stepA (zcC rfl rfl rfl (.cons (LeV.nils _) (.cons (LeV.eq (congrArg (fun y => chsA y) hV)) .nil)) (zcL [] (fmL m z hb0))) rfl rfl ?_;apply Ex.nil;apply X.block;refine X.range (sl := [1, 2, 3, 4, 10]) (fun j => ([.ept (fun _ : Unit => [btsA z]) () 0, .ept (fun _ : Unit => mnE m) () 0, .ept (fun _ : Unit => hbE hb0) () 0, .ptr 4 0 0 0, .ptr 10 0 0 0], [(4, .box [.yv lY] 107), (10, .box [tmsA (durB z)] 54), (1000000, .yld (wyK m z hb0 j) true)])) (fun j => True) 900001 900002 rfl rfl (by decide) (fun j zs hj => by obtain ⟨_, _, rfl⟩ := zdy hj; rfl) ((zey (fmL m z hb0) [] (by omega) (by simp; omega) (zjM m z hb0))) trivial rfl rfl (by decide) (Nat.le_refl _) (by simp) (fun j zs hj => by obtain ⟨_, _, rfl⟩ := zdy hj; rfl) (fun _ => rfl) rfl rfl (fun l o us => yn) (trivial) (fun j zs hj hJ l ready busy rb vs g w hb hyB => ?_) (fun hJ => ?_)
  ·have hZ1 := zdy hj;obtain ⟨x, hx, rfl⟩ := hZ1;have hxl := zkG (fmL m z hb0) [] x (fun f hf => (zjM m z hb0 f hf).2) (List.mem_of_getElem? hx);rw [List.length_nil, zfF] at hxl;apply yc;refine ye ?_;refine ⟨rfl, rfl, ?_⟩;apply X.block;apply yb;(iterate 3 refine ya ?_);refine yj (zh3 m x (durB z) (by omega)) ?_;refine ya ?_;refine zi8 (t := 39) true rfl (fun hg4 => ?_) (fun hg4 => ?_)
   ·(iterate 2 refine zM ?_);have hq0 : reQ m x (durB z) = true := by unfold reQ; simpa using hg4
    have hZ2 := zqv hx hq0;obtain ⟨hq1, hq2⟩ := hZ2;refine zbd hY rfl rfl rfl (fun _ => ⟨_, _, rfl, rfl, rfl, LeL.refl _, rfl, rfl, hq1, fun b => ?_⟩) (fun h => absurd (h.symm.trans hg4) (by decide));refine zM ?_;first | refine ya (hs := zcE rfl (zsg hg4) rfl) ?_ | refine ya ?_
    apply Ex.nil;refine yl rfl ?_ ?_<;>intro hc2
    ·subst hc2;refine X.ret ?_;refine ⟨[.ept (fun _ : Unit => [btsA z]) () 0, .ept (fun _ : Unit => mnE m) () 0, .ept (fun _ : Unit => hbE hb0) () 0, .ptr 4 0 0 0, .ptr 10 0 0 0], [(4, .box [.yv lY] 107), (10, .box [tmsA (durB z)] 54), (1000000, .yld (wyK m z hb0 j) false)], yn, ?_⟩;refine ⟨.inr rfl, _, false, rfl, fun hb => by simp at hb⟩
    subst hc2;apply yf;refine ⟨[.ept (fun _ : Unit => [btsA z]) () 0, .ept (fun _ : Unit => mnE m) () 0, .ept (fun _ : Unit => hbE hb0) () 0, .ptr 4 0 0 0, .ptr 10 0 0 0], [(4, .box [.yv lY] 107), (10, .box [tmsA (durB z)] 54), (1000000, .yld (wyK m z hb0 (j + 1)) true)], yn, rfl, trivial⟩
   ·refine zaN ?_;(iterate 3 refine zaN ?_);first | refine ya (hs := zcE rfl (zsg hg4) rfl) ?_ | refine ya ?_
    apply Ex.nil;refine yl rfl ?_ ?_<;>intro hc3
    ·exact absurd hc3 (by decide)
    have hq0 : ¬ reQ m x (durB z) = true := by unfold reQ; simpa using hg4
    have hq2 := zsi hx hq0;apply yf;refine ⟨[.ept (fun _ : Unit => [btsA z]) () 0, .ept (fun _ : Unit => mnE m) () 0, .ept (fun _ : Unit => hbE hb0) () 0, .ptr 4 0 0 0, .ptr 10 0 0 0], [(4, .box [.yv lY] 107), (10, .box [tmsA (durB z)] 54), (1000000, .yld (wyK m z hb0 (j + 1)) true)], yn, rfl, trivial⟩
  refine ⟨.inl rfl, _, true, rfl, fun _ => zqw m z hb0⟩
end Go.Rse
namespace Go.Rse
open Go Go.Proofs
def wlV (m : Mn) (l : List Bt) (h : Hb) : List (List Sg) := if wcnE m l h = 0 then wyL m l h else []
theorem zii {m : Mn} {l : List Bt} {h : Hb} (e : wcnE m l h = 0) : l.length <= 12 := by
 apply Classical.byContradiction;intro hn;by_cases c : wcE m l = 0
 ·have := (zl3 (h := h) c (by omega)).1; omega
 ·have := (zl2 (h := h) c).1; omega
theorem zkH {m : Mn} {l : List Bt} {h : Hb} {x : List Sg} (hx : x ∈ wyL m l h) : x.length <= 2 * l.length := by
 unfold wyL at hx;have := zkG (fmL m l h) [] x (fun f hf => (zjM m l h f hf).2) (List.mem_filter.1 hx).1;rw [zfF] at this; simpa using this
theorem zqx (m : Mn) (h : Hb) : ∀ (l : List Bt) (r : List Sg), (wuL (fmL m l h) r).length <= cnP m h l := by
 intro l
 induction l with
 | nil => intro r; unfold fmL wuL cnP; simp
 | cons b l ih =>
  intro r;have e : fmL m (b :: l) h = fmV m b h :: fmL m l h := by unfold fmL; rfl
  rw [e];unfold wuL;rw [List.length_flatMap]
  have h1 : ∀ L : List (List Sg), (L.map fun x => (wuL (fmL m l h) (r ++ x)).length).sum <= L.length * cnP m h l := by
   intro L
   induction L with
   | nil => simp
   | cons y L ih2 =>
    rw [List.map_cons, List.sum_cons, List.length_cons, Nat.succ_mul];have := ih (r ++ y);omega
  refine Nat.le_trans (h1 _) ?_
  have h2 : (fmV m b h).length <= (frV m b h).length := by
   unfold fmV; split
   ·exact Nat.le_refl _
   ·simp
  exact Nat.le_trans (Nat.mul_le_mul_right _ h2) (Nat.le_refl _)
theorem zmA {m : Mn} {l : List Bt} {h : Hb} (e : wcnE m l h = 0) : (wyL m l h).length <= 4096 := by
 have h1 := zqx m h l [];have h2 : (wyL m l h).length <= (wuL (fmL m l h) []).length := by unfold wyL; exact List.length_filter_le _ _
 have h3 : cnP m h l <= 4096 := by
  apply Classical.byContradiction;intro hn;by_cases c : wcE m l = 0
  ·by_cases c2 : 12 < l.length
   ·have := (zl3 (h := h) c c2).1; omega
   ·have := (zo9 (h := h) c c2 (by omega)).1; omega
  ·have := (zl2 (h := h) c).1; omega
 omega
theorem zjN {l : List (List Sg)} {j : Nat} {x : List Sg} (h : l[j]? = some x) : l.take j ++ [x] = l.take (j + 1) := by
 rw [List.take_add_one, h]; rfl
theorem zqy (m : Mn) (l : List Bt) (h : Hb) : (wyL m l h).take (wyX m l h).length = wyL m l h := by
 unfold wyX; rw [List.length_map, List.take_length]
attribute [local irreducible] Pur yC yE Ex X Fn Imp LeV LeB FnO It yJ FnW FnOW FnP FnD
attribute [local irreducible] wuX wuL wyX wyL wyK fmL fmV durB wcE wcnE wcnV rdE rdV
theorem zbo (m : Mn) (z : List Bt) (q : Hb) : Fn Tryz.prog 46 [mnA m, btsA z, hbA q] (.fn 63 [.ept (fun _ : Unit => [btsA z]) () 0, .ept (fun _ : Unit => mnE m) () 0, .ept (fun _ : Unit => hbE q) () 0]) := by
 refine Fn.go Tryz.func46 Tryz.ntmps46 (fun g w d => ?_);apply yb;refine yF ?_;refine zbr ?_;refine yF ?_;refine ya ?_;apply yi;refine yg ?_;refine X.ret ?_;refine RetQ.imp (((yT (k := 3) rfl rfl).trans (yT (k := 4) rfl rfl)).trans (yT (k := 5) rfl rfl)) ?_;refine yh ?_;all_goals (first | rfl | (simp_all; done))
set_option maxHeartbeats 2000000 in
theorem zaY (m : Mn) (z : List Bt) (q : Hb) (hl : z.length <= 4000000000) : Fn Tryz.prog 24 [mnA m, btsA z, hbA q] (.tup [z8 (wlV m z q), iv (wcnE m z q)]) := by
 refine Fn.go Tryz.func24 Tryz.ntmps24 (fun g w d => ?_);apply yb;iterate 2 refine yF ?_
 refine yg ?_;apply yd;apply yb;iterate 3 refine ya ?_
 refine yj (zdM m z q hl) ?_;iterate 5 refine ya ?_
 apply yi;refine yg ?_;refine yl rfl ?_ ?_<;>intro hc1
 ·have hV : wlV m z q = [] := by unfold wlV; rw [if_neg hc1]
  apply yb;refine yo ?_;refine X.ret ?_;refine RetQ.imp (yn (ts := [(6, z8 []), (7, iv (wcnE m z q))]) (hs := [])) ?_;refine yw ?_ ?_;all_goals (first | (rw [hV]; done) | exact congrArg (fun y => z8 y) (htl.trans hV.symm) | exact congrArg (AV.int .i64) h0.symm | rfl)
 have h0 : wcnE m z q = 0 := by omega
 have hV : wlV m z q = wyL m z q := by unfold wlV; rw [if_pos h0]
 have hz12 := zii h0;have hcn := zmA h0;have htl := zqy m z q;apply yf;apply yb;refine yD ?_;apply Ex.nil;iterate 2 apply yd
 refine X.imp (zaI sgsE 27 1 10 39 55 rfl rfl) ?_;apply yc;iterate 3 refine ya ?_
 refine yj (zbo m z q) ?_;apply Ex.nil;apply X.block;have ht0 : [] = (wyL m z q).take 0 := by simp
 refine X.range (sl := [10]) (fun j => ([.ptr 10 0 0 0], [(10, .box [.own 39] 55), (39, .row sgsE ((wyL m z q).take j) 27 1)])) (fun j => True) 900001 900002 rfl rfl (by decide) (fun j zs hj => by obtain ⟨i, _, rfl⟩ := zdz hj; rfl) ((za7 m z q (by omega))) trivial rfl rfl (by decide) (Nat.zero_le _) (by simp) (fun j zs hj => by obtain ⟨i, _, rfl⟩ := zdz hj; rfl) (fun _ => rfl) rfl rfl (fun l o us => yn) (trivial) (fun j zs hj hJ l ready busy rb vs g w hb hyB => ?_) (fun hJ => ?_)
 ·have hZ1 := zdz hj;obtain ⟨x, hi, rfl⟩ := hZ1;have hst := zjN hi;have hxl := zkH (List.mem_of_getElem? hi);have hnn : ((wyL m z q).take j).length <= 4096 := by rw [List.length_take]; omega
  apply yc;refine ye ?_;refine ⟨rfl, rfl, ?_⟩;apply X.block;refine zz [27,28,29,30] [0,0,2,6,15,31] mo ?_;iterate 2 refine yk ?_
  refine y9 (zaX x (by omega)) ?_;refine ChM.step rfl rfl rfl (yy (enc := sgsE) (l := [x]) sl55 ty27 ze27 (by decide) rfl rfl rfl rfl (by decide) (by decide) (fun _ => rfl) rfl) rfl ?_;refine yX ?_;iterate 2 refine Ex.mo ?_
  apply Ex.nil;refine ⟨[.ptr 10 0 0 0], [(10, .box [.own 39] 55), (39, .row sgsE ((wyL m z q).take (j + 1)) 27 1)], yn, rfl, trivial⟩
 apply yb;refine yo ?_;refine X.ret ?_;refine RetQ.imp (Imp.freeze (k := 39) rfl) ?_;refine yw ?_ ?_;all_goals (first | (rw [hV]; done) | exact congrArg (fun y => z8 y) (htl.trans hV.symm) | exact congrArg (AV.int .i64) h0.symm | rfl)
theorem zeS (m : Mn) (z : List Bt) (q : Hb) (hl : z.length <= 4000000000) : Fn Tryz.prog 23 [mnA m, btsA z, hbA q] (.tup [iv ((wlV m z q).length : Int), iv (wcnE m z q)]) := by
 refine Fn.go Tryz.func23 Tryz.ntmps23 (fun g w d => ?_);apply yb;iterate 2 refine yF ?_
 iterate 2 refine ya ?_
 apply yi;iterate 3 refine ya ?_
 refine yj (zaY m z q hl) ?_;iterate 5 refine ya ?_
 apply yi;refine zu ?_;refine X.ret ?_;refine yw ?_ ?_;all_goals (first | rfl | (simp_all; done))
end Go.Rse
