/-
  Walks.
-/
import Derived.Test.YtkpbljifckjeoaaGreatDoorYJRef9a
set_option linter.unusedSimpArgs false
set_option linter.unusedVariables false
namespace Go.Rse
open Go Go.Proofs
section
attribute [local irreducible] Pur yr yw Ex X Fn Imp LeV LeB FnO It yx
theorem zkA : mpOk Tryz.prog 189 3 25 := ⟨by kernel_rfl, _, Tryz.underlying3⟩
theorem ziK : ∃ d, Tryz.prog.underlying 3 = some (.int d) /\ d = .i64 := ⟨_, Tryz.underlying3, rfl⟩
attribute [local irreducible] zbe zR zak zaD ckD prL twos zbw dvK mget mput bsT duE duV yq durT clr
set_option maxHeartbeats 2000000 in
theorem ziL (m : Mn) (l : List Sg) (mi : List Int) (hl : l.length <= 1000) (hmi : mi.length <= 1000) : Fn Tryz.prog 94 [mnA m, sgsA l, yf mi] (.tup [tmsA (duV m l mi), iv (duE m l mi)]) := by
 have hpl := zi2 m l;have hm0 : [] = zbw (prL m l) mi 0 := by unfold zbw; rfl
 refine Fn.go Tryz.func94 Tryz.ntmps94 (fun g w d => ?_);refine gq ?_;refine zaF [(39, 39)] (zdu m l hl) ?_;refine gd ?_ ?_<;>intro hc1
 ·have hE := zuz (mi := mi) hc1;have hV := znQ hE hc1;apply yg;refine zh ?_;refine X.ret ?_;refine RetQ.imp (ye (ts := [(6, tmsA []), (7, iv (ckD m l))]) (hs := [])) ?_;refine yi ?_ ?_;all_goals (first | exact congrArg tmsA hV | exact congrArg (AV.int .i64) hE)
 apply yp;iterate 2 apply yl
 refine X.imp (Imp.freeze (k := 39) rfl) ?_;refine gd ?_ ?_<;>intro hc2
 ·have hE := zuA (mi := mi) hc1 (by omega);have hV := znQ hE (by decide);apply yg;refine zm ?_;refine X.ret ?_;refine RetQ.imp (ye (ts := [(6, tmsA []), (7, iv 2)]) (hs := [])) ?_;refine yi ?_ ?_;all_goals (first | exact congrArg tmsA hV | exact congrArg (AV.int .i64) hE)
 refine gq ?_;refine Ex.stepA (zfQ (k := 32) (fun i : Int => iv i) tmA) rfl rfl ?_;refine gq ?_
 refine yS (ι := Nat) (fun (k : Nat) => [(1, sgsA l), (2, yf mi), (3, .ptr 3 0 0 0), (10, .mp 32), (33, yf (prL m l)), (34, iv (prL m l).length), (35, iv (k : Int))]) (fun (k : Nat) => [(3, .box (mnE m) 32), (32, .mpb (fun i : Int => iv i) tmA (zbw (prL m l) mi k))]) (fun (k : Nat) => k <= (prL m l).length /\ mnK mi k) (fun (k : Nat) => (prL m l).length - k) 0 (fun k hk => ?_) (hJ := by
  exact ⟨by omega, zuy mi⟩) (h0 := by
  exact yd)
 obtain ⟨hk1, hk2⟩ := hk;refine gd ?_ ?_<;>intro hc3
 ·obtain ⟨x, hx⟩ : ∃ x, (prL m l)[k]? = some x := ⟨_, lgg (by omega)⟩;have hx2 : (prL m l)[(k : Int).toNat]? = some x := by simpa using hx
  have hxb := zsr hx;obtain ⟨y, hy⟩ : ∃ y, mi[k]? = some y := ⟨_, lgg (by omega)⟩;have hy2 : mi[(k : Int).toNat]? = some y := by simpa using hy
  refine gd ?_ ?_<;>intro hc4
  ·have hst := zmR (p := prL m l) hy hc4;refine gq ?_
   refine yz (k + 1) (hJ := by
    exact ⟨by omega, zrl hk2 hy (by omega)⟩) (hI := yd)
  ·refine gd ?_ ?_<;>intro hc5
   ·have hst := zmQ hx hy hc5;refine gq ?_;refine z8 (zdR (venc := tmA) ⟨3, 2⟩ rfl rfl rfl rfl rfl zkA ziK (fun _ _ => rfl)) ?_;refine z8 (zdR (venc := tmA) ⟨1, 2⟩ rfl rfl rfl rfl rfl zkA ziK (fun _ _ => rfl)) ?_;refine gq ?_
    refine yz (k + 1) (hJ := by
     exact ⟨by omega, zrl hk2 hy (by omega)⟩) (hI := yd)
   ·have hE := zuB hc1 (znO hy hc4 hc5);have hV := znQ hE (by decide);apply yg;refine zm ?_;refine X.ret ?_;refine RetQ.imp (ye (ts := [(6, tmsA []), (7, iv 2)]) (hs := [])) ?_;refine yi ?_ ?_;all_goals (first | exact congrArg tmsA hV | exact congrArg (AV.int .i64) hE)
 ·have hkl : k = (prL m l).length := by omega
  subst hkl;have hok : mnOk mi = true := zsq (by rw [show mi.length = (prL m l).length by omega]; exact hk2);have hE := zuC hc1 (by omega) hok;have hV := zuD hE;have hd0 : [] = dvK m l (duM m l mi) 0 := by unfold dvK; rfl
  apply X.exit;apply yg;refine yu ?_;iterate 2 apply yl
  refine X.imp (yL tmE 25 2 13 13 rfl rfl) ?_;refine gq ?_
  refine yS (ι := Nat) (fun (k : Nat) => [(3, .ptr 3 0 0 0), (10, .mp 32), (13, .own 13), (56, sgsA l), (57, iv l.length), (58, iv (k : Int))]) (fun (k : Nat) => [(3, .box (mnE m) 32), (32, .mpb (fun i : Int => iv i) tmA (duM m l mi)), (13, .row tmE (dvK m l (duM m l mi) k) 25 2)]) (fun (k : Nat) => k <= l.length) (fun (k : Nat) => l.length - k) 0 (fun k hk => ?_) (h0 := by
   exact yd)
  refine gd ?_ ?_<;>intro hc6
  ·obtain ⟨s, hs⟩ : ∃ s, l[k]? = some s := ⟨_, lgg (by omega)⟩;have hs2 : l[(k : Int).toNat]? = some s := by simpa using hs
   have hlen := zlG m l (duM m l mi) k;apply yp;apply yl;apply X.block;apply yg;(iterate 3 refine ya ?_);refine zB ?_;refine ya ?_;refine Ex.mo ?_;apply yI;(iterate 2 refine ya ?_);refine ya (hs := zoT (venc := tmA) tmZ rfl rfl rfl zkA ziK (fun _ _ => rfl) (zoV ze25)) ?_;refine gd ?_ ?_<;>intro hc7
   ·have hrow := zi4 (m := m) (M := duM m l mi) hs hc7;refine gq ?_;refine yz (k + 1) (hI := yd)
   have hval := zgV hc1 hs hc7;have hrow := zi5 (m := m) (M := duM m l mi) hs hc7;refine gd ?_ ?_<;>intro hc8
   ·rw [← zsp (z := tmZ) hc8] at hrow;refine gq ?_;refine yJ tmE [⟨_, _⟩] ?_;refine gq ?_;refine yz (k + 1) (hI := yd)
   ·refine gq ?_;refine yb (zaG _) ?_;refine gd ?_ ?_<;>intro hc9
    ·rw [← znN hc8, ← zuw hc9] at hrow;refine gq ?_;refine yb (zfU m hval.1 s.Value hval.2.1 hval.2.2) ?_;refine gq ?_;refine yJ tmE [⟨_, _⟩] ?_;refine gq ?_;refine yz (k + 1) (hI := yd)
    ·rw [← znN hc8, ← zux hc9] at hrow;refine gq ?_;refine yb (zbC hval.1 hval.2.1 hval.2.2) ?_;refine gq ?_;refine yJ tmE [⟨_, _⟩] ?_;refine gq ?_;refine yz (k + 1) (hI := yd)
  ·have hkl2 : k = l.length := by omega
   subst hkl2;apply X.exit;apply yg;refine zh ?_;refine X.ret ?_;refine RetQ.imp (Imp.freeze (k := 13) rfl) ?_;refine yi ?_ ?_;all_goals (first | exact congrArg tmsA hV | exact congrArg (AV.int .i64) hE)
end
section
structure Ite where
 Sign : Int
 Value : Int
 Rest : Bool
 Color : Bool
 Fixed : Bool
 Cut : Int
 Dur : Tm
 Before : Tm
 After : Tm
 deriving DecidableEq
instance : Inhabited Ite := ⟨⟨0, 0, false, false, false, 0, ⟨0, 0⟩, ⟨0, 0⟩, ⟨0, 0⟩⟩⟩
def itE : Ite -> List AV := fun x => [.int .i64 x.Sign, .int .i64 x.Value, .bool x.Rest, .bool x.Color, .bool x.Fixed, .int .i64 x.Cut, .int .i64 x.Dur.N, .int .i64 x.Dur.D, .int .i64 x.Before.N, .int .i64 x.Before.D, .int .i64 x.After.N, .int .i64 x.After.D]
abbrev itA (x : Ite) : AV := .agg (itE x)
abbrev itsA (l : List Ite) : AV := .sl itE l
instance : EncK itE 12 := ⟨fun _ => rfl⟩
def ntN (l : List Sg) : Nat -> Nat
 | 0 => 0
 | k + 1 => match l[k]? with
  | some s => if s.Kind = 3 then ntN l k else ntN l k + 1
  | none => ntN l k
theorem ziM {l : List Sg} {k : Nat} {s : Sg} (hs : l[k]? = some s) (h : s.Kind = 3) : ntN l (k + 1) = ntN l k := by
 simp only [ntN, hs, if_pos h]
theorem ziN {l : List Sg} {k : Nat} {s : Sg} (hs : l[k]? = some s) (h : ¬ s.Kind = 3) : ntN l (k + 1) = ntN l k + 1 := by
 simp only [ntN, hs, if_neg h]
theorem zjF (l : List Sg) (k : Nat) : ntN l k <= ntN l (k + 1) /\ ntN l (k + 1) <= ntN l k + 1 := by
 cases hs : l[k]? with
 | none => simp [ntN, hs]
 | some s => by_cases h : s.Kind = 3 <;> simp [ntN, hs, h]
theorem zjG (l : List Sg) : ∀ (n k : Nat), k <= n -> ntN l k <= ntN l n
 | 0, k, h => by have : k = 0 := by omega
                 subst this; exact Nat.le_refl _
 | n + 1, k, h => by
  rcases Nat.lt_or_ge n k with h1 | h1
  ·have : k = n + 1 := by omega
   subst this; exact Nat.le_refl _
  ·have := zjG l n k h1;have := (zjF l n).1;omega
theorem zkB (l : List Sg) : ∀ k, ntN l k <= k
 | 0 => Nat.le_refl _
 | k + 1 => by have := zkB l k; have := (zjF l k).2; omega
theorem zkC (ch : List Int) (l : List Sg) : ∀ k, (mkK ch l k).1.length = ntN l k
 | 0 => rfl
 | k + 1 => by
  have h := zkC ch l k;cases hs : l[k]? with
  | none => simp only [mkK, ntN, hs]; exact h
  | some s =>
   by_cases hK : s.Kind = 3
   ·rw [zgm hs hK, ziM hs hK]; simpa using h
   ·rw [zeR hs hK, ziN hs hK]; simpa using h
theorem znc (m : Mn) (l : List Sg) (M : List (Int × Tm)) : ∀ k, (dvK m l M k).length = ntN l k
 | 0 => rfl
 | k + 1 => by
  have h := znc m l M k;cases hs : l[k]? with
  | none => simp only [dvK, ntN, hs]; exact h
  | some s =>
   by_cases hK : s.Kind = 3
   ·rw [← zi4 hs hK, ziM hs hK]; exact h
   ·rw [← zi5 hs hK, ziN hs hK]; simpa using h
theorem zlk {m : Mn} {l : List Sg} {M : List (Int × Tm)} {k : Nat} {s : Sg} (hs : l[k]? = some s) (h : ¬ s.Kind = 3) : ∀ n, k < n -> (dvK m l M n)[ntN l k]? = some ((mget (k : Int) M).getD (bsT m s))
 | 0, hn => by omega
 | n + 1, hn => by
  rcases Nat.lt_or_ge k n with h1 | h1
  ·have ih := zlk (m := m) (M := M) hs h n h1;have hlt : ntN l k < (dvK m l M n).length := (List.getElem?_eq_some_iff.1 ih).1;cases hz : l[n]? with
   | none => simp only [dvK, hz]; exact ih
   | some z =>
    by_cases hK : z.Kind = 3
    ·rw [← zi4 hz hK]; exact ih
    ·rw [← zi5 hz hK, List.getElem?_append_left hlt]; exact ih
  ·have : k = n := by omega
   subst this;rw [← zi5 hs h, ← znc m l M k, List.getElem?_append_right (Nat.le_refl _), Nat.sub_self]; rfl
def itOf (k : Nat) (s : Sg) (c : Int) (a : Bool) (d : Tm) : Ite :=
 ⟨k, s.Value, decide (s.Kind = 2), clr s, a || decide (s.Kind = 2) || clr s || decide (c = s.Value), c, if a = true then mulV d ⟨3, 2⟩ else d, ⟨0, 1⟩, ⟨0, 1⟩⟩
def itK (l : List Sg) (c : List Int) (a : List Bool) (d : List Tm) : Nat -> List Ite
 | 0 => []
 | k + 1 => match l[k]? with
  | some s => if s.Kind = 3 then itK l c a d k else itK l c a d k ++ [itOf k s (c.getD (ntN l k) 0) (a.getD (ntN l k) false) (d.getD (ntN l k) ⟨0, 0⟩)]
  | none => itK l c a d k
section
variable {l : List Sg} {c : List Int} {a : List Bool} {d : List Tm} {k : Nat} {s : Sg}
theorem zll (hs : l[k]? = some s) (h : s.Kind = 3) : itK l c a d k = itK l c a d (k + 1) := by
 conv => rhs; unfold itK
 rw [hs]; simp only [if_pos h]
theorem zrV {x : Int} {y : Bool} {z : Tm} (hs : l[k]? = some s) (h : ¬ s.Kind = 3) (hx : c[ntN l k]? = some x) (hy : a[ntN l k]? = some y) (hz : d[ntN l k]? = some z) : itK l c a d k ++ [itOf k s x y z] = itK l c a d (k + 1) := by
 conv => rhs; unfold itK
 rw [hs]; simp only [if_neg h];rw [zgs hx, zgs hy, zgs hz]
end
theorem ztJ (l : List Sg) (c : List Int) (a : List Bool) (d : List Tm) : [] = itK l c a d 0 := rfl
theorem ziO (l : List Sg) (c : List Int) (a : List Bool) (d : List Tm) : ∀ k, (itK l c a d k).length = ntN l k
 | 0 => rfl
 | k + 1 => by
  have h := ziO l c a d k;cases hs : l[k]? with
  | none => simp only [itK, ntN, hs]; exact h
  | some s =>
   by_cases hK : s.Kind = 3
   ·rw [← zll hs hK, ziM hs hK]; exact h
   ·simp only [itK, hs, if_neg hK, ziN hs hK]; simpa using h
def zq3 (m : Mn) (v : Int) : Bool := decide (mulE (yq m v) ⟨3, 2⟩ = 0) && decide (mulE (durT m v) ⟨3, 2⟩ = 0)
theorem zmC : zgM zq3 = true := by kernel_rfl
theorem znd {m : Mn} {v : Int} (hm : ckM m = 0) (h1 : 1 <= v) (h8 : v <= 8) : mulE (yq m v) ⟨3, 2⟩ = 0 /\ mulE (durT m v) ⟨3, 2⟩ = 0 := by
 have h := zcw zmC hm h1 h8;unfold zq3 at h;simpa using h
theorem zo5 {m : Mn} {s : Sg} (hm : ckM m = 0) (h1 : 1 <= s.Value) (h8 : s.Value <= 8) : mulE (bsT m s) ⟨3, 2⟩ = 0 := by
 unfold bsT; split
 ·exact (znd hm h1 h8).2
 ·exact (znd hm h1 h8).1
theorem zcR (p mi : List Int) (q : Int) : ∀ k x, mget q (zbw p mi k) = some x -> x = ⟨3, 2⟩ \/ x = ⟨1, 2⟩
 | 0, x, h => by simp [zbw, znL] at h
 | k + 1, x, h => by
  unfold zbw at h;split at h
  ·rw [zfD, zfD] at h;split at h
   ·injection h with h; exact .inr h.symm
   ·split at h
    ·injection h with h; exact .inl h.symm
    ·exact zcR p mi q k x h
  ·exact zcR p mi q k x h
theorem zne {m : Mn} {l : List Sg} {mi : List Int} {q : Int} {s : Sg} (hm : ckM m = 0) (h1 : 1 <= s.Value) (h8 : s.Value <= 8) : mulE ((mget q (duM m l mi)).getD (bsT m s)) ⟨3, 2⟩ = 0 := by
 cases h : mget q (duM m l mi) with
 | none => exact zo5 hm h1 h8
 | some x =>
  rcases zcR _ _ _ _ _ h with rfl | rfl
  ·show mulE ⟨3, 2⟩ ⟨3, 2⟩ = 0; decide +kernel
  ·show mulE ⟨1, 2⟩ ⟨3, 2⟩ = 0; decide +kernel
def itmE (m : Mn) (l : List Sg) (ch mi : List Int) : Int := if mkE m l ch = 0 then duE m l mi else mkE m l ch
def itmV (m : Mn) (l : List Sg) (ch mi : List Int) : List Ite := if itmE m l ch mi = 0 then itK l (mkC m l ch) (mkA m l ch) (duV m l mi) l.length else []
theorem zkD {m : Mn} {l : List Sg} {ch : List Int} (h : ¬ ckD m l = 0) : mkE m l ch = ckD m l := by unfold mkE; rw [if_neg h]
theorem zrW {m : Mn} {l : List Sg} {ch : List Int} (h : mkE m l ch = 0) : ckD m l = 0 := by
 apply Classical.byContradiction; intro h2;rw [zkD h2] at h; exact h2 h
theorem znf {m : Mn} {l : List Sg} {ch mi : List Int} (h : ¬ mkE m l ch = 0) : itmE m l ch mi = mkE m l ch := by unfold itmE; rw [if_neg h]
theorem zng {m : Mn} {l : List Sg} {ch mi : List Int} (h : mkE m l ch = 0) : itmE m l ch mi = duE m l mi := by unfold itmE; rw [if_pos h]
theorem zkE {m : Mn} {l : List Sg} {ch mi : List Int} (h : ¬ itmE m l ch mi = 0) : itmV m l ch mi = [] := by unfold itmV; rw [if_neg h]
theorem znh {m : Mn} {l : List Sg} {ch mi : List Int} (h : itmE m l ch mi = 0) : itmV m l ch mi = itK l (mkC m l ch) (mkA m l ch) (duV m l mi) l.length := by unfold itmV; rw [if_pos h]
theorem ztK {m : Mn} {l : List Sg} {ch mi : List Int} {k : Nat} {s : Sg} (h1 : mkE m l ch = 0) (h2 : duE m l mi = 0) (hs : l[k]? = some s) (h : ¬ s.Kind = 3) :
 ∃ x y z, (mkC m l ch)[ntN l k]? = some x /\ (mkA m l ch)[ntN l k]? = some y /\ (duV m l mi)[ntN l k]? = some z /\ mulE z ⟨3, 2⟩ = 0 /\ ntN l k < ntN l l.length /\ ckM m = 0 /\ 1 <= s.Value /\ s.Value <= 8 /\ (z = bsT m s \/ z = ⟨3, 2⟩ \/ z = ⟨1, 2⟩) := by
 have hk : k < l.length := (List.getElem?_eq_some_iff.1 hs).1
 have hlt : ntN l k < ntN l l.length := by
  have := zjG l l.length (k + 1) hk;rw [ziN hs h] at this; omega
 obtain ⟨hm, v1, v8⟩ := zgV (zrW h1) hs h;have c1 : (mkC m l ch).length = ntN l l.length := by unfold mkC; rw [if_pos h1]; exact zkC ch l l.length
 have c2 : (mkA m l ch).length = ntN l l.length := by unfold mkA; rw [if_pos h1, ← (ziJ ch l l.length).1]; exact zkC ch l l.length
 refine ⟨_, _, _, lgg (by omega), lgg (by omega), ?_, zne (l := l) (mi := mi) (q := (k : Int)) (s := s) hm v1 v8, hlt, hm, v1, v8, ?_⟩
 ·unfold duV; rw [if_pos h2];exact zlk hs h l.length hk
 ·cases hq : mget (k : Int) (duM m l mi) with
  | none => exact .inl rfl
  | some x => exact .inr (zcR _ _ _ _ _ hq)
section
variable {k : Nat} {s : Sg} {x : Int} {y : Bool} {z : Tm}
def itL (k : Nat) (s : Sg) (f : Bool) (x : Int) (z : Tm) : Ite := ⟨k, s.Value, decide (s.Kind = 2), decide (s.Kind = 1) && s.Color, f, x, z, ⟨0, 1⟩, ⟨0, 1⟩⟩
theorem ztL (hy : y = true) : itL k s true x (mulV z ⟨3, 2⟩) = itOf k s x y z := by subst hy; rfl
theorem zni (hy : y = false) (h : s.Kind = 2 \/ clr s = true \/ x = s.Value) : itL k s true x z = itOf k s x y z := by
 subst hy
 have : (false || decide (s.Kind = 2) || clr s || decide (x = s.Value)) = true := by
  rcases h with h | h | h <;> simp [h]
 unfold itOf itL; rw [this]; rfl
theorem ztM (hy : y = false) (h1 : ¬ s.Kind = 2) (h2 : clr s = false) (h3 : ¬ x = s.Value) : itL k s false x z = itOf k s x y z := by
 subst hy;have : (false || decide (s.Kind = 2) || clr s || decide (x = s.Value)) = false := by simp [h1, h2, h3]
 unfold itOf itL; rw [this]; rfl
end
end
section
attribute [local irreducible] Pur yr yw Ex X Fn Imp LeV LeB FnO It yx
def tfx (t : Tm) (l : List Tm) : Int := if l.findIdx (fun u => decide (t = u)) < l.length then (l.findIdx (fun u => decide (t = u)) : Int) else -1
theorem zo6 {t : Tm} {l : List Tm} {k : Nat} {v : Tm} (hv : l[k]? = some v) (hp : t = v) (hJ : ∀ i u, i < k -> l[i]? = some u -> ¬ t = u) : tfx t l = k := by
 have hk : k < l.length := (List.getElem?_eq_some_iff.1 hv).1;have hg : l[k] = v := (List.getElem?_eq_some_iff.1 hv).2;have : l.findIdx (fun u => decide (t = u)) = k := (List.findIdx_eq hk).2 ⟨by rw [hg]; simpa using hp, fun j hj => by simpa using hJ j _ hj (lgg (by omega))⟩;unfold tfx; rw [this, if_pos hk]
theorem znj {t : Tm} {l : List Tm} (hJ : ∀ i u, i < l.length -> l[i]? = some u -> ¬ t = u) : tfx t l = -1 := by
 have : l.findIdx (fun u => decide (t = u)) = l.length := List.findIdx_eq_length.2 fun x hx => by
  obtain ⟨i, hi⟩ := List.mem_iff_getElem?.1 hx;simpa using hJ i x (List.getElem?_eq_some_iff.1 hi).1 hi
 unfold tfx; rw [if_neg (by omega)]
theorem zo7 (t : Tm) (l : List Tm) : decide (0 <= tfx t l) = decide (t ∈ l) := by
 by_cases h : t ∈ l
 ·have : l.findIdx (fun u => decide (t = u)) < l.length := List.findIdx_lt_length_of_exists ⟨t, h, by simp⟩;simp only [tfx, if_pos this, h]; simp
 ·have h2 : l.findIdx (fun u => decide (t = u)) = l.length := List.findIdx_eq_length.2 fun u hu => decide_eq_false fun e => h (e ▸ hu)
  have : ¬ l.findIdx (fun u => decide (t = u)) < l.length := by omega
  simp only [tfx, if_neg this, h]; simp
theorem zbM {α : Type} {l : List α} {j : Nat} {x : α} (h : l[j]? = some x) : l.take j ++ [x] = l.take (j + 1) := by
 rw [List.take_add_one, h]; rfl
theorem zh9 (m : Mn) : (perfL m).length <= 4 := by
 unfold perfL;refine Nat.le_trans (List.length_filter_le _ _) ?_;simp
attribute [local irreducible] tfx perfL
theorem zaV (l : List Tm) (t : Tm) (hl : l.length <= 4000000000) : Fn Tryz.prog 151 [tmsA l, tmA t] (iv (tfx t l)) := by
 refine Fn.go Tryz.func151 Tryz.ntmps151 (fun g w d => ?_);refine gq ?_
 refine yS (ι := Nat) (fun (k : Nat) => [(0, tmsA l), (3, .ptr 3 0 0 0), (7, iv l.length), (8, iv (k : Int))]) (fun (k : Nat) => [(3, .box (tmE t) 25)]) (fun (k : Nat) => k <= l.length /\ ∀ i u, i < k -> l[i]? = some u -> ¬ t = u) (fun (k : Nat) => l.length - k) 0 (fun k hk => ?_) (hJ := by
  exact ⟨by omega, fun i u h => absurd h (Nat.not_lt_zero i)⟩)
 obtain ⟨hk1, hk2⟩ := hk;refine gd ?_ ?_<;>intro hc1
 ·obtain ⟨v, hv⟩ : ∃ v, l[k]? = some v := ⟨_, lgg (by omega)⟩;have hv2 : l[(k : Int).toNat]? = some v := by simpa using hv
  refine gq ?_;refine zf [11,12,13,14,15,16] [0,0,0,6,14,31] mo ?_;iterate 6 refine yc ?_
  refine yE ?_;refine gd ?_ ?_<;>intro hc2
  ·refine gq ?_;all_goals (congr 1; exact (zo6 hv hc2 hk2).symm)
  refine gq ?_
  refine yz (k + 1) (hJ := by
   refine ⟨by omega, fun i u hi hu => ?_⟩;rcases Nat.lt_succ_iff_lt_or_eq.1 hi with h | h
   ·exact hk2 i u h hu
   ·subst h; rw [hv] at hu; injection hu with hu; subst hu; exact hc2)
 ·refine gq ?_;all_goals (congr 1; exact (znj (fun i u hi => hk2 i u (by omega))).symm)
theorem zl (l : List Tm) (t : Tm) (hl : l.length <= 4000000000) : Fn Tryz.prog 111 [tmsA l, tmA t] (.bool (decide (t ∈ l))) := by
 refine Fn.go Tryz.func111 Tryz.ntmps111 (fun g w d => ?_);refine gq ?_;refine yb (zaV l t hl) ?_;refine gq ?_;all_goals (congr 1; exact zo7 t l)
theorem zaW (a b : List Tm) (hl : a.length <= 4000000000) : Fn Tryz.prog 70 [tmsA a, tmsA b] (.bool (decide (a = b))) := by
 refine Fn.go Tryz.func70 Tryz.ntmps70 (fun g w d => ?_);refine gd ?_ ?_<;>intro hc1
 ·have hD : decide (a = b) = false := by rw [decide_eq_false_iff_not]; intro h; subst h; exact hc1 rfl
  refine gq ?_;all_goals (rw [hD])
 have hlen : a.length = b.length := by omega
 refine gq ?_
 refine yS (ι := Nat) (fun (k : Nat) => [(0, tmsA a), (1, tmsA b), (12, iv a.length), (13, iv (k : Int))]) (fun (k : Nat) => []) (fun (k : Nat) => k <= a.length /\ a.take k = b.take k) (fun (k : Nat) => a.length - k) 0 (fun k hk => ?_) (hJ := by
  exact ⟨by omega, by simp⟩)
 obtain ⟨hk1, hk2⟩ := hk;refine gd ?_ ?_<;>intro hc2
 ·obtain ⟨x, hx⟩ : ∃ x, a[k]? = some x := ⟨_, lgg (by omega)⟩;have hx2 : a[(k : Int).toNat]? = some x := by simpa using hx
  obtain ⟨y, hy⟩ : ∃ y, b[k]? = some y := ⟨_, lgg (by omega)⟩;have hy2 : b[(k : Int).toNat]? = some y := by simpa using hy
  refine gq ?_;refine zf [16,17,18,19,20,21,22,23,24] [0,0,3,7,0,0,48,112,255] mo ?_;iterate 9 refine yc ?_
  refine yE ?_;refine gd ?_ ?_<;>intro hc3
  ·have hD : decide (a = b) = false := by rw [decide_eq_false_iff_not]; intro h; subst h; rw [hx] at hy; injection hy with hy; exact hc3 hy
   refine gq ?_;all_goals (rw [hD])
  refine gq ?_
  refine yz (k + 1) (hJ := by
   exact ⟨by omega, by rw [← zbM hx, ← zbM hy, hk2, hc3]⟩)
 ·have hD : decide (a = b) = true := by
   have h1 : k = a.length := by omega
   rw [decide_eq_true_iff]; subst h1; rw [List.take_length, hlen, List.take_length] at hk2; exact hk2
  refine gq ?_;all_goals (rw [hD])
theorem zP (l : List Ite) (hl : l.length <= 4000000) : FnO Tryz.prog 99 [itsA l] [] [] (.own 5) [(5, .row itE l 120 12)] := by
 refine FnO.intro (ts := [(0, itsA l)]) (rv := [.tmp 2]) (n := 8) (cs := []) (by kernel_rfl) Tryz.func99 rfl Tryz.ntmps99 rfl rfl (by simp) rfl rfl rfl rfl (fun g w d vs => ?_);apply yg;refine yu ?_;apply yl;apply yg;refine ya ?_;refine Ex.eqNil rfl ziH rfl (fun b hb => ?_);refine gd ?_ ?_<;>intro hc1
 ·have hl0 := hb hc1;subst hl0;subst hc1;apply yg;refine yu ?_;refine X.ret ?_;refine zmh.imp (yL itE 120 12 2 5 rfl rfl) ?_;refine zmh.mk (ts := [(2, .own 5)]) (.inr rfl) (ye) (.one (.tmp rfl (LeV.eq rfl)))
 refine gq ?_;refine yJ itE [] ?_;refine ya ?_;refine Ex.mo ?_;refine yu ?_;refine X.ret ?_;refine zmh.mk (ts := [(2, .own 5)]) (.inr rfl) (ye) (.one (.tmp rfl (LeV.eq rfl)))
theorem zbN (m : Mn) : Fn Tryz.prog 174 [.nils, .fn 135 [.ept (fun _ : Unit => mnE m) () 0]] (yf (perfL m)) := by
 have hpl := zh9 m;refine Fn.go Tryz.func174 Tryz.ntmps174 (fun g w d => ?_);apply yg;refine zbB ?_;refine yu ?_;iterate 2 apply yl
 refine X.imp (zaM intE 3 1 2 39 59 rfl rfl) ?_;apply ym;refine yu ?_;apply X.block;have ht0 : [] = (perfL m).take 0 := by simp
 have htl : (perfL m).take (zeq m).length = perfL m := by unfold zeq; rw [List.length_map, List.take_length]
 refine X.range (sl := [2]) (fun j => ([.ptr 2 0 0 0], [(2, .box [.own 39] 59), (39, .row intE ((perfL m).take j) 3 1)])) (fun j => True) 900001 900002 rfl rfl (by decide) (fun j zs hj => by obtain ⟨i, _, rfl⟩ := zbJ hj; rfl) (zcE m) trivial rfl rfl (by decide) (Nat.zero_le _) (by simp) (fun j zs hj => by obtain ⟨i, _, rfl⟩ := zbJ hj; rfl) (fun _ => rfl) rfl rfl (fun l o us => ye) (trivial) (fun j zs hj hJ l ready busy rb vs g w hb hyB => ?_) (fun hJ => ?_)
 ·have hZ1 := zbJ hj;obtain ⟨i, hi, rfl⟩ := hZ1;have hst := zbM hi;have hlt : ((perfL m).take j).length <= 1000 := by simp; omega
  apply ym;refine yu ?_;refine ⟨rfl, rfl, ?_⟩;refine gq ?_;refine yJ intE [_] ?_;iterate 2 refine Ex.mo ?_
  apply Ex.nil;refine ⟨[.ptr 2 0 0 0], [(2, .box [.own 39] 59), (39, .row intE ((perfL m).take (j + 1)) 3 1)], ye, rfl, trivial⟩
 apply yg;refine zm ?_;refine X.ret ?_;refine RetQ.imp (Imp.freeze (k := 39) rfl) ?_;refine gq ?_;all_goals (first | exact congrArg yf htl | rfl)
theorem zdo (m : Mn) : Fn Tryz.prog 132 [.fn 135 [.ept (fun _ : Unit => mnE m) () 0]] (yf (perfL m)) := by
 refine Fn.go Tryz.func132 Tryz.ntmps132 (fun g w d => ?_);refine gq ?_;refine yb (zbN m) ?_;refine gq ?_;all_goals (first | rfl | (simp_all; done))
theorem zel (m : Mn) : Fn Tryz.prog 96 [mnA m] (.tup [yf (if ckM m = 0 then perfL m else []), iv (ckM m)]) := by
 refine Fn.go Tryz.func96 Tryz.ntmps96 (fun g w d => ?_);refine gq ?_;refine yb (zat m) ?_;refine gd ?_ ?_<;>intro hc1
 ·apply yg;refine zh ?_;refine X.ret ?_;refine RetQ.imp (ye (ts := [(2, yf []), (3, iv (ckM m))]) (hs := [])) ?_;refine yi ?_ ?_;all_goals (first | (rw [if_neg hc1]; done) | rfl)
 refine gq ?_;refine yb (zdA m) ?_;refine yb (zdo m) ?_;refine gq ?_;refine yi ?_ ?_;all_goals (first | (rw [if_pos hc1]; done) | exact congrArg (AV.int .i64) hc1.symm)
end
section
attribute [local irreducible] Pur yr yw Ex X Fn Imp LeV LeB FnO It yx
structure Sp where
 Value : Int
 Rest : Bool
 Color : Bool
 Dot : Bool
 Way : Int
 deriving DecidableEq
def spE : Sp -> List AV := fun s => [iv s.Value, .bool s.Rest, .bool s.Color, .bool s.Dot, iv s.Way]
abbrev spA (s : Sp) : AV := .agg (spE s)
abbrev spsA (l : List Sp) : AV := .sl spE l
def spOf (v w : Int) : Sp := ⟨v, decide (w = 8), decide (w = 5) || decide (w = 6) || decide (w = 7), decide (w = 2) || decide (w = 6), w⟩
theorem zo8 (m : Mn) {v : Int} (h1 : 1 <= v) (n : Nat) : (wdL m v n).length <= 81 := by
 have h3 := zdX m v (5 - v).toNat v (yq m v) false;have h4 : 3 ^ (5 - v).toNat <= 3 ^ 4 := Nat.pow_le_pow_right (by decide) (by omega);have h5 : 3 ^ 4 = 81 := rfl;unfold wdL
 repeat' split
 all_goals first | (simp; done) | omega
def alI (m : Mn) (t : Tm) (v : Int) : Nat -> List Sp
 | 0 => []
 | n + 1 => if n ≠ 0 /\ t ∈ wdL m v n then alI m t v n ++ [spOf v (n : Int)] else alI m t v n
def alO (m : Mn) (t : Tm) : Nat -> List Sp
 | 0 => []
 | k + 1 => alO m t k ++ alI m t (1 + (k : Int)) 9
theorem zgn (m : Mn) (t : Tm) (v : Int) : ∀ n, (alI m t v n).length <= n
 | 0 => Nat.le_refl _
 | n + 1 => by
  have := zgn m t v n;unfold alI; split
  ·simp; omega
  ·omega
theorem zgo (m : Mn) (t : Tm) : ∀ k, (alO m t k).length <= 9 * k
 | 0 => Nat.le_refl _
 | k + 1 => by
  have h1 := zgo m t k;have h2 := zgn m t (1 + (k : Int)) 9;unfold alO; simp; omega
theorem zlm {m : Mn} {t : Tm} {v : Int} {n : Nat} (hn : n ≠ 0) (h : t ∈ wdL m v n) (X : List Sp) : X ++ alI m t v n ++ [spOf v (n : Int)] = X ++ alI m t v (n + 1) := by
 conv => rhs; unfold alI
 rw [if_pos ⟨hn, h⟩, List.append_assoc]
theorem zkF {m : Mn} {t : Tm} {v : Int} {n : Nat} (h : n = 0 \/ ¬ t ∈ wdL m v n) (X : List Sp) : X ++ alI m t v n = X ++ alI m t v (n + 1) := by
 conv => rhs; unfold alI
 rw [if_neg (fun e => by rcases h with h | h; exact e.1 h; exact h e.2)]
def allE (m : Mn) (t : Tm) : List Sp := if bthE m t = 0 then alO m t 8 else []
theorem fnT : fnTy Tryz.prog 168 := ⟨_, _, _, Tryz.underlying168⟩
theorem zo9 (j : Nat) (hj : j < 9) : (j = 0 /\ (zrn.drop ((j : Int).toNat * 4)).take 4 = [.bool false, .bool false, .bool false, .nilf]) ∨
 (j ≠ 0 /\ ∃ f, (zrn.drop ((j : Int).toNat * 4)).take 4 = [.bool (decide ((j : Int) = 8)), .bool (decide ((j : Int) = 5) || decide ((j : Int) = 6) || decide ((j : Int) = 7)), .bool (decide ((j : Int) = 2) || decide ((j : Int) = 6)), .fn f []] ∧
  ∀ (m : Mn) (v : Int), ckM m = 0 -> 1 <= v -> v <= 8 -> Fn Tryz.prog f [mnA m, iv v] (tmsA (wdL m v j))) := by
 rcases j with _ | _ | _ | _ | _ | _ | _ | _ | _ | j
 ·exact .inl ⟨rfl, rfl⟩
 ·exact .inr ⟨by decide, _, rfl, fun m v a b c => zg6 m v a b c⟩
 ·exact .inr ⟨by decide, _, rfl, fun m v a b c => zg7 m v a b c⟩
 ·exact .inr ⟨by decide, _, rfl, fun m v a b c => zjc m v a b c⟩
 ·exact .inr ⟨by decide, _, rfl, fun m v a b c => zg8 m v a b c⟩
 ·exact .inr ⟨by decide, _, rfl, fun m v a b c => zg9 m v a b c⟩
 ·exact .inr ⟨by decide, _, rfl, fun m v a b c => zha m v a b c⟩
 ·exact .inr ⟨by decide, _, rfl, fun m v a b c => zhb m v a b c⟩
 ·exact .inr ⟨by decide, _, rfl, fun m v a b c => zhc m v a b c⟩
 ·omega
attribute [local irreducible] yq durT mulV wdL alI alO bthE tfx
set_option maxHeartbeats 4000000 in
theorem zjH (m : Mn) (t : Tm) : Fn Tryz.prog 79 [mnA m, tmA t] (.tup [spsA (allE m t), iv (bthE m t)]) := by
 refine Fn.go Tryz.func79 Tryz.ntmps79 (fun g w d => ?_);refine gq ?_;refine yb (zja m t) ?_;refine gd ?_ ?_<;>intro hc1
 ·have hV : [] = allE m t := by unfold allE; rw [if_neg hc1]
  apply yg;refine zh ?_;refine X.ret ?_;refine RetQ.imp (ye (ts := [(4, spsA []), (5, iv (bthE m t))]) (hs := [])) ?_;refine yi ?_ ?_;all_goals (first | exact congrArg spsA hV | rfl | exact congrArg (AV.int .i64) hc1.symm)
 apply yp;apply yg;refine yu ?_;iterate 2 apply yl
 refine X.imp (yL spE 130 5 7 7 rfl rfl) ?_;apply ym;refine yu ?_;apply X.block;have hq0 : [] = alO m t 0 := by unfold alO; rfl
 have hck := znV hc1
 refine yS (ι := Nat) (fun (k : Nat) => [(2, .ptr 2 0 0 0), (3, .ptr 3 0 0 0), (7, .own 7), (8, iv (1 + (k : Int)))]) (fun (k : Nat) => [(2, .box (mnE m) 32), (3, .box (tmE t) 25), (7, .row spE (alO m t k) 130 5)]) (fun (k : Nat) => k <= 8) (fun (k : Nat) => 8 - k) 0 (fun k hk => ?_) (h0 := by
  exact yd)
 refine gd ?_ ?_<;>intro hc2
 ·refine gq ?_;refine yb zjd ?_;refine yu ?_;apply X.block;have hq1 : alO m t k = alO m t k ++ alI m t (1 + (k : Int)) 0 := by unfold alI; simp
  have hol := zgo m t k
  refine yS (ι := Nat) (fun (j : Nat) => [(2, .ptr 2 0 0 0), (3, .ptr 3 0 0 0), (7, .own 7), (8, iv (1 + (k : Int))), (21, .agg zrn), (22, iv (j : Int))]) (fun (j : Nat) => [(2, .box (mnE m) 32), (3, .box (tmE t) 25), (7, .row spE (alO m t k ++ alI m t (1 + (k : Int)) j) 130 5)]) (fun (j : Nat) => j <= 9) (fun (j : Nat) => 9 - j) 0 (fun j hk => ?_) (h0 := by
   exact yd)
  refine gd ?_ ?_<;>intro hc3
  ·have hil := zgn m t (1 + (k : Int)) j;apply yp;apply yl;apply X.block;apply yl;rcases zo9 j (by omega) with ⟨hj0, hpart⟩ | ⟨hj0, fw, hpart, hF⟩
   ·apply ym;refine ya ?_;refine ya (hs := zx ArK.h TyK.h rfl rfl (by omega) (by omega) hpart) ?_;refine gq ?_;refine zf [26,27,28,29,30,31,32,33,34,35,36,37] [0,1,3,7,15,31,15,15,255,15,1023,2047] mo ?_;(iterate 2 refine yc ?_);refine ChM.step rfl rfl rfl (Pur.stepA (zli fnT rfl rfl)) rfl ?_;refine yc ?_;(iterate 6 refine ChM.gn (.any) ?_);refine ChM.gn (.bool false) ?_;refine yc ?_;refine yE ?_;refine gd ?_ ?_<;>intro hc4
    ·simp at hc4
    have hst := zkF (m := m) (t := t) (v := 1 + (k : Int)) (n := j) (.inl hj0) (alO m t k);refine gq ?_;refine yz (j + 1) (hI := yd)
   ·apply ym;refine ya ?_;refine ya (hs := zx ArK.h TyK.h rfl rfl (by omega) (by omega) hpart) ?_;refine gq ?_;refine zf [26,27,28,29,30,31,32,33,34,35,36,37] [0,1,3,7,15,31,15,15,255,15,1023,2047] mo ?_;(iterate 2 refine yc ?_);refine ChM.step rfl rfl rfl (Pur.stepA (zoW fnT rfl rfl)) rfl ?_;refine yc ?_;(iterate 4 refine ChM.gi ?_);refine ChM.cg (hF m (1 + (k : Int)) hck.1 (by omega) (by omega)) ?_;refine ChM.gi ?_;refine ChM.cg (zl (wdL m (1 + (k : Int)) j) t (by have := zo8 m (show 1 <= 1 + (k : Int) by omega) j; omega)) ?_;refine yc ?_;refine yE ?_;refine gd ?_ ?_<;>intro hc5
    ·have hst := zlm (v := 1 + (k : Int)) hj0 hc5.2 (alO m t k);refine gq ?_;refine yJ spE [spOf (1 + (k : Int)) (j : Int)] ?_;refine gq ?_;refine yz (j + 1) (hI := yd)
    ·have hst := zkF (m := m) (t := t) (v := 1 + (k : Int)) (n := j) (.inr (by rcases hc5 with h | h; exact absurd h (by decide); exact h)) (alO m t k);refine gq ?_;refine yz (j + 1) (hI := yd)
  ·have hj9 : j = 9 := by omega
   subst hj9;have hst : alO m t k ++ alI m t (1 + (k : Int)) 9 = alO m t (k + 1) := by conv => rhs; unfold alO
   refine gq ?_;refine yz (k + 1) (hI := yd)
 ·have hk8 : k = 8 := by omega
  subst hk8;have hV : alO m t 8 = allE m t := by unfold allE; rw [if_pos hc1]
  apply X.exit;apply yg;refine zh ?_;refine X.ret ?_;refine RetQ.imp (Imp.freeze (k := 7) rfl) ?_;refine yi ?_ ?_;all_goals (first | exact congrArg spsA hV | rfl | exact congrArg (AV.int .i64) hc1.symm)
end
end Go.Rse
