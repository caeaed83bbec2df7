/-
  Plain: items of a run under chosen meanings.
-/
import Derived.Test.YtbilklnipfabpaaGreatDoorZDot9
import Derived.Test.YtbilklnipfabpaaGreatDoorZJColor8
import Derived.Test.YtbilklnipfabpaaGreatDoorZJFull1
import Derived.Test.YtbilklnipfabpaaGreatDoorZJTime
import Derived.Test.YtbilklnipfabpaaGreatDoorZJSpell2
import Derived.Test.YtbilklnipfabpaaGreatDoorZLogC
import Derived.Test.YtbilklnipfabpaaGreatDoorZSpell1
set_option linter.unusedSimpArgs false
set_option linter.unusedVariables false
namespace Go.Rse
open Go Go.Proofs
structure Ite where
 Sign : Int
 Value : Int
 Rest : Bool
 Color : Bool
 Fixed : Bool
 Cut : Int
 Dur : Tm
 Before : Tm
 After : Tm
 deriving DecidableEq
instance : Inhabited Ite := ⟨⟨0, 0, false, false, false, 0, ⟨0, 0⟩, ⟨0, 0⟩, ⟨0, 0⟩⟩⟩
def itE : Ite -> List AV := fun x => [.int .i64 x.Sign, .int .i64 x.Value, .bool x.Rest, .bool x.Color, .bool x.Fixed, .int .i64 x.Cut, .int .i64 x.Dur.N, .int .i64 x.Dur.D, .int .i64 x.Before.N, .int .i64 x.Before.D, .int .i64 x.After.N, .int .i64 x.After.D]
abbrev itA (x : Ite) : AV := .agg (itE x)
abbrev itsA (l : List Ite) : AV := .sl itE l
instance : EncK itE 12 := ⟨fun _ => rfl⟩
def ntN (l : List Sg) : Nat -> Nat
 | 0 => 0
 | k + 1 => match l[k]? with
  | some s => if s.Kind = 3 then ntN l k else ntN l k + 1
  | none => ntN l k
theorem zfA {l : List Sg} {k : Nat} {s : Sg} (hs : l[k]? = some s) (h : s.Kind = 3) : ntN l (k + 1) = ntN l k := by
 simp only [ntN, hs, if_pos h]
theorem zdN {l : List Sg} {k : Nat} {s : Sg} (hs : l[k]? = some s) (h : ¬ s.Kind = 3) : ntN l (k + 1) = ntN l k + 1 := by
 simp only [ntN, hs, if_neg h]
theorem ziY (l : List Sg) (k : Nat) : ntN l k <= ntN l (k + 1) /\ ntN l (k + 1) <= ntN l k + 1 := by
 cases hs : l[k]? with
 | none => simp [ntN, hs]
 | some s => by_cases h : s.Kind = 3 <;> simp [ntN, hs, h]
theorem zfY (l : List Sg) : ∀ (n k : Nat), k <= n -> ntN l k <= ntN l n
 | 0, k, h => by have : k = 0 := by omega
                 subst this; exact Nat.le_refl _
 | n + 1, k, h => by
  rcases Nat.lt_or_ge n k with h1 | h1
  ·have : k = n + 1 := by omega
   subst this; exact Nat.le_refl _
  ·have := zfY l n k h1;have := (ziY l n).1;omega
theorem zh0 (l : List Sg) : ∀ k, ntN l k <= k
 | 0 => Nat.le_refl _
 | k + 1 => by have := zh0 l k; have := (ziY l k).2; omega
theorem zh1 (ch : List Int) (l : List Sg) : ∀ k, (mkK ch l k).1.length = ntN l k
 | 0 => rfl
 | k + 1 => by
  have h := zh1 ch l k;cases hs : l[k]? with
  | none => simp only [mkK, ntN, hs]; exact h
  | some s =>
   by_cases hK : s.Kind = 3
   ·rw [zdX hs hK, zfA hs hK]; simpa using h
   ·rw [zcJ hs hK, zdN hs hK]; simpa using h
theorem zmv (m : Mn) (l : List Sg) (M : List (Int × Tm)) : ∀ k, (dvK m l M k).length = ntN l k
 | 0 => rfl
 | k + 1 => by
  have h := zmv m l M k;cases hs : l[k]? with
  | none => simp only [dvK, ntN, hs]; exact h
  | some s =>
   by_cases hK : s.Kind = 3
   ·rw [← zhS hs hK, zfA hs hK]; exact h
   ·rw [← zhT hs hK, zdN hs hK]; simpa using h
theorem zh2 {m : Mn} {l : List Sg} {M : List (Int × Tm)} {k : Nat} {s : Sg} (hs : l[k]? = some s) (h : ¬ s.Kind = 3) : ∀ n, k < n -> (dvK m l M n)[ntN l k]? = some ((mget (k : Int) M).getD (bsT m s))
 | 0, hn => by omega
 | n + 1, hn => by
  rcases Nat.lt_or_ge k n with h1 | h1
  ·have ih := zh2 (m := m) (M := M) hs h n h1;have hlt : ntN l k < (dvK m l M n).length := (List.getElem?_eq_some_iff.1 ih).1;cases hz : l[n]? with
   | none => simp only [dvK, hz]; exact ih
   | some z =>
    by_cases hK : z.Kind = 3
    ·rw [← zhS hz hK]; exact ih
    ·rw [← zhT hz hK, List.getElem?_append_left hlt]; exact ih
  ·have : k = n := by omega
   subst this;rw [← zhT hs h, ← zmv m l M k, List.getElem?_append_right (Nat.le_refl _), Nat.sub_self]; rfl
def itOf (k : Nat) (s : Sg) (c : Int) (a : Bool) (d : Tm) : Ite :=
 ⟨k, s.Value, decide (s.Kind = 2), clr s, a || decide (s.Kind = 2) || clr s || decide (c = s.Value), c, if a = true then mulV d ⟨3, 2⟩ else d, ⟨0, 1⟩, ⟨0, 1⟩⟩
def itK (l : List Sg) (c : List Int) (a : List Bool) (d : List Tm) : Nat -> List Ite
 | 0 => []
 | k + 1 => match l[k]? with
  | some s => if s.Kind = 3 then itK l c a d k else itK l c a d k ++ [itOf k s (c.getD (ntN l k) 0) (a.getD (ntN l k) false) (d.getD (ntN l k) ⟨0, 0⟩)]
  | none => itK l c a d k
section
variable {l : List Sg} {c : List Int} {a : List Bool} {d : List Tm} {k : Nat} {s : Sg}
theorem zh3 (hs : l[k]? = some s) (h : s.Kind = 3) : itK l c a d k = itK l c a d (k + 1) := by
 conv => rhs; unfold itK
 rw [hs]; simp only [if_pos h]
theorem zra {x : Int} {y : Bool} {z : Tm} (hs : l[k]? = some s) (h : ¬ s.Kind = 3) (hx : c[ntN l k]? = some x) (hy : a[ntN l k]? = some y) (hz : d[ntN l k]? = some z) : itK l c a d k ++ [itOf k s x y z] = itK l c a d (k + 1) := by
 conv => rhs; unfold itK
 rw [hs]; simp only [if_neg h];rw [zZ hx, zZ hy, zZ hz]
end
theorem zsF (l : List Sg) (c : List Int) (a : List Bool) (d : List Tm) : [] = itK l c a d 0 := rfl
theorem zfZ (l : List Sg) (c : List Int) (a : List Bool) (d : List Tm) : ∀ k, (itK l c a d k).length = ntN l k
 | 0 => rfl
 | k + 1 => by
  have h := zfZ l c a d k;cases hs : l[k]? with
  | none => simp only [itK, ntN, hs]; exact h
  | some s =>
   by_cases hK : s.Kind = 3
   ·rw [← zh3 hs hK, zfA hs hK]; exact h
   ·simp only [itK, hs, if_neg hK, zdN hs hK]; simpa using h
def zp2 (m : Mn) (v : Int) : Bool := decide (mulE (fullT m v) ⟨3, 2⟩ = 0) && decide (mulE (durT m v) ⟨3, 2⟩ = 0)
theorem zlv : zd6 zp2 = true := by kernel_rfl
theorem zmw {m : Mn} {v : Int} (hm : ckM m = 0) (h1 : 1 <= v) (h8 : v <= 8) : mulE (fullT m v) ⟨3, 2⟩ = 0 /\ mulE (durT m v) ⟨3, 2⟩ = 0 := by
 have h := zaU zlv hm h1 h8;unfold zp2 at h;simpa using h
theorem zot {m : Mn} {s : Sg} (hm : ckM m = 0) (h1 : 1 <= s.Value) (h8 : s.Value <= 8) : mulE (bsT m s) ⟨3, 2⟩ = 0 := by
 unfold bsT; split
 ·exact (zmw hm h1 h8).2
 ·exact (zmw hm h1 h8).1
theorem zaV (p mi : List Int) (q : Int) : ∀ k x, mget q (zab p mi k) = some x -> x = ⟨3, 2⟩ \/ x = ⟨1, 2⟩
 | 0, x, h => by simp [zab, ziT] at h
 | k + 1, x, h => by
  unfold zab at h;split at h
  ·rw [zU, zU] at h;split at h
   ·injection h with h; exact .inr h.symm
   ·split at h
    ·injection h with h; exact .inl h.symm
    ·exact zaV p mi q k x h
  ·exact zaV p mi q k x h
theorem zmx {m : Mn} {l : List Sg} {mi : List Int} {q : Int} {s : Sg} (hm : ckM m = 0) (h1 : 1 <= s.Value) (h8 : s.Value <= 8) : mulE ((mget q (duM m l mi)).getD (bsT m s)) ⟨3, 2⟩ = 0 := by
 cases h : mget q (duM m l mi) with
 | none => exact zot hm h1 h8
 | some x =>
  rcases zaV _ _ _ _ _ h with rfl | rfl
  ·show mulE ⟨3, 2⟩ ⟨3, 2⟩ = 0; decide +kernel
  ·show mulE ⟨1, 2⟩ ⟨3, 2⟩ = 0; decide +kernel
def itmE (m : Mn) (l : List Sg) (ch mi : List Int) : Int := if mkE m l ch = 0 then duE m l mi else mkE m l ch
def itmV (m : Mn) (l : List Sg) (ch mi : List Int) : List Ite := if itmE m l ch mi = 0 then itK l (mkC m l ch) (mkA m l ch) (duV m l mi) l.length else []
theorem zjI {m : Mn} {l : List Sg} {ch : List Int} (h : ¬ ckD m l = 0) : mkE m l ch = ckD m l := by unfold mkE; rw [if_neg h]
theorem zbR {m : Mn} {l : List Sg} {ch : List Int} (h : mkE m l ch = 0) : ckD m l = 0 := by
 apply Classical.byContradiction; intro h2;rw [zjI h2] at h; exact h2 h
theorem zmy {m : Mn} {l : List Sg} {ch mi : List Int} (h : ¬ mkE m l ch = 0) : itmE m l ch mi = mkE m l ch := by unfold itmE; rw [if_neg h]
theorem zmz {m : Mn} {l : List Sg} {ch mi : List Int} (h : mkE m l ch = 0) : itmE m l ch mi = duE m l mi := by unfold itmE; rw [if_pos h]
theorem zjJ {m : Mn} {l : List Sg} {ch mi : List Int} (h : ¬ itmE m l ch mi = 0) : itmV m l ch mi = [] := by unfold itmV; rw [if_neg h]
theorem zh4 {m : Mn} {l : List Sg} {ch mi : List Int} (h : itmE m l ch mi = 0) : itmV m l ch mi = itK l (mkC m l ch) (mkA m l ch) (duV m l mi) l.length := by unfold itmV; rw [if_pos h]
theorem zsG {m : Mn} {l : List Sg} {ch mi : List Int} {k : Nat} {s : Sg} (h1 : mkE m l ch = 0) (h2 : duE m l mi = 0) (hs : l[k]? = some s) (h : ¬ s.Kind = 3) :
 ∃ x y z, (mkC m l ch)[ntN l k]? = some x /\ (mkA m l ch)[ntN l k]? = some y /\ (duV m l mi)[ntN l k]? = some z /\ mulE z ⟨3, 2⟩ = 0 /\ ntN l k < ntN l l.length /\ ckM m = 0 /\ 1 <= s.Value /\ s.Value <= 8 /\ (z = bsT m s \/ z = ⟨3, 2⟩ \/ z = ⟨1, 2⟩) := by
 have hk : k < l.length := (List.getElem?_eq_some_iff.1 hs).1
 have hlt : ntN l k < ntN l l.length := by
  have := zfY l l.length (k + 1) hk;rw [zdN hs h] at this; omega
 obtain ⟨hm, v1, v8⟩ := zO (zbR h1) hs h;have c1 : (mkC m l ch).length = ntN l l.length := by unfold mkC; rw [if_pos h1]; exact zh1 ch l l.length
 have c2 : (mkA m l ch).length = ntN l l.length := by unfold mkA; rw [if_pos h1, ← (zdY ch l l.length).1]; exact zh1 ch l l.length
 refine ⟨_, _, _, lgg (by omega), lgg (by omega), ?_, zmx (l := l) (mi := mi) (q := (k : Int)) (s := s) hm v1 v8, hlt, hm, v1, v8, ?_⟩
 ·unfold duV; rw [if_pos h2];exact zh2 hs h l.length hk
 ·cases hq : mget (k : Int) (duM m l mi) with
  | none => exact .inl rfl
  | some x => exact .inr (zaV _ _ _ _ _ hq)
theorem zou {m : Mn} {l : List Sg} (h : ckD m l = 0) {k : Nat} {s : Sg} (hs : l[k]? = some s) (h3 : ¬ s.Kind = 3) : s.Kind = 1 \/ s.Kind = 2 := by
 have hk : k < l.length := (List.getElem?_eq_some_iff.1 hs).1;have hF := (zae (ziF h) (k + 1) (by omega)).2 k s (by omega) hs;unfold sgF at hF;split at hF
 ·assumption
 ·first | (cases hF; done) | (rw [if_neg h3] at hF; cases hF)
section
variable {k : Nat} {s : Sg} {x : Int} {y : Bool} {z : Tm}
def itL (k : Nat) (s : Sg) (f : Bool) (x : Int) (z : Tm) : Ite := ⟨k, s.Value, decide (s.Kind = 2), decide (s.Kind = 1) && s.Color, f, x, z, ⟨0, 1⟩, ⟨0, 1⟩⟩
theorem zsH (hy : y = true) : itL k s true x (mulV z ⟨3, 2⟩) = itOf k s x y z := by subst hy; rfl
theorem zmA (hy : y = false) (h : s.Kind = 2 \/ clr s = true \/ x = s.Value) : itL k s true x z = itOf k s x y z := by
 subst hy
 have : (false || decide (s.Kind = 2) || clr s || decide (x = s.Value)) = true := by
  rcases h with h | h | h <;> simp [h]
 unfold itOf itL; rw [this]; rfl
theorem zsI (hy : y = false) (h1 : ¬ s.Kind = 2) (h2 : clr s = false) (h3 : ¬ x = s.Value) : itL k s false x z = itOf k s x y z := by
 subst hy;have : (false || decide (s.Kind = 2) || clr s || decide (x = s.Value)) = false := by simp [h1, h2, h3]
 unfold itOf itL; rw [this]; rfl
end
end Go.Rse
namespace Go.Rse
open Go Go.Proofs
attribute [local irreducible] Pur yD yE Ex X Fn Imp LeV LeB FnO It yH
def tfx (t : Tm) (l : List Tm) : Int := if l.findIdx (fun u => decide (t = u)) < l.length then (l.findIdx (fun u => decide (t = u)) : Int) else -1
theorem zov {t : Tm} {l : List Tm} {k : Nat} {v : Tm} (hv : l[k]? = some v) (hp : t = v) (hJ : ∀ i u, i < k -> l[i]? = some u -> ¬ t = u) : tfx t l = k := by
 have hk : k < l.length := (List.getElem?_eq_some_iff.1 hv).1;have hg : l[k] = v := (List.getElem?_eq_some_iff.1 hv).2;have : l.findIdx (fun u => decide (t = u)) = k := (List.findIdx_eq hk).2 ⟨by rw [hg]; simpa using hp, fun j hj => by simpa using hJ j _ hj (lgg (by omega))⟩;unfold tfx; rw [this, if_pos hk]
theorem zmB {t : Tm} {l : List Tm} (hJ : ∀ i u, i < l.length -> l[i]? = some u -> ¬ t = u) : tfx t l = -1 := by
 have : l.findIdx (fun u => decide (t = u)) = l.length := List.findIdx_eq_length.2 fun x hx => by
  obtain ⟨i, hi⟩ := List.mem_iff_getElem?.1 hx;simpa using hJ i x (List.getElem?_eq_some_iff.1 hi).1 hi
 unfold tfx; rw [if_neg (by omega)]
theorem zow (t : Tm) (l : List Tm) : decide (0 <= tfx t l) = decide (t ∈ l) := by
 by_cases h : t ∈ l
 ·have : l.findIdx (fun u => decide (t = u)) < l.length := List.findIdx_lt_length_of_exists ⟨t, h, by simp⟩;simp only [tfx, if_pos this, h]; simp
 ·have h2 : l.findIdx (fun u => decide (t = u)) = l.length := List.findIdx_eq_length.2 fun u hu => decide_eq_false fun e => h (e ▸ hu)
  have : ¬ l.findIdx (fun u => decide (t = u)) < l.length := by omega
  simp only [tfx, if_neg this, h]; simp
theorem zjK {α : Type} {l : List α} {j : Nat} {x : α} (h : l[j]? = some x) : l.take j ++ [x] = l.take (j + 1) := by
 rw [List.take_add_one, h]; rfl
theorem zhk (m : Mn) : (perfL m).length <= 4 := by
 unfold perfL;refine Nat.le_trans (List.length_filter_le _ _) ?_;simp
attribute [local irreducible] tfx perfL
theorem zaG (l : List Tm) (t : Tm) (hl : l.length <= 4000000000) : Fn Tryz.prog 85 [tmsA l, tmA t] (iv (tfx t l)) := by
 refine Fn.go Tryz.func85 Tryz.ntmps85 (fun g w d => ?_);apply yb;refine yG ?_;refine yd ?_;apply ye;apply yb;refine yr ?_;apply X.block
 refine zw (ι := Nat) (fun (k : Nat) => [(0, tmsA l), (3, .ptr 3 0 0 0), (7, iv l.length), (8, iv (k : Int))]) (fun (k : Nat) => [(3, .box (tmE t) 46)]) (fun (k : Nat) => k <= l.length /\ ∀ i u, i < k -> l[i]? = some u -> ¬ t = u) (fun (k : Nat) => l.length - k) 0 (fun k hk => ?_) (hJ := by
  exact ⟨by omega, fun i u h => absurd h (Nat.not_lt_zero i)⟩)
 obtain ⟨hk1, hk2⟩ := hk;apply yb;refine yd ?_;apply ye;refine ym rfl ?_ ?_<;>intro hc1
 ·obtain ⟨v, hv⟩ : ∃ v, l[k]? = some v := ⟨_, lgg (by omega)⟩;have hv2 : l[(k : Int).toNat]? = some v := by simpa using hv
  apply yf;apply ye;apply X.block;apply yb;refine yg ?_;apply ye;refine zC [11,12,13,14,15,16] [0,0,0,6,14,31] mo ?_;iterate 6 refine yl ?_
  refine zb ?_;apply Ex.nil;refine ym rfl ?_ ?_<;>intro hc2
  ·apply yb;refine yg ?_;refine X.ret ?_;refine yn ?_;all_goals (congr 1; exact (zov hv hc2 hk2).symm)
  apply yf;apply yc;refine yg ?_
  refine yY (k + 1) (hJ := by
   refine ⟨by omega, fun i u hi hu => ?_⟩;rcases Nat.lt_succ_iff_lt_or_eq.1 hi with h | h
   ·exact hk2 i u h hu
   ·subst h; rw [hv] at hu; injection hu with hu; subst hu; exact hc2)
 ·apply X.exit;apply yb;refine yd ?_;refine X.ret ?_;refine yn ?_;all_goals (congr 1; exact (zmB (fun i u hi => hk2 i u (by omega))).symm)
theorem zi (l : List Tm) (t : Tm) (hl : l.length <= 4000000000) : Fn Tryz.prog 41 [tmsA l, tmA t] (.bool (decide (t ∈ l))) := by
 refine Fn.go Tryz.func41 Tryz.ntmps41 (fun g w d => ?_);apply yb;refine yG ?_;refine ya ?_;apply yk;iterate 2 refine ya ?_
 refine yq (zaG l t hl) ?_;refine yg ?_;refine X.ret ?_;refine yn ?_;all_goals (congr 1; exact zow t l)
theorem zaH (l : List Ite) (hl : l.length <= 4000000) : FnO Tryz.prog 94 [itsA l] [] [] (.own 5) [(5, .row itE l 95 12)] := by
 refine FnO.intro (ts := [(0, itsA l)]) (rv := [.tmp 2]) (n := 8) (cs := []) (by kernel_rfl) Tryz.func94 rfl Tryz.ntmps94 rfl rfl (by simp) rfl rfl rfl rfl (fun g w d vs => ?_);apply yb;refine yd ?_;apply ye;apply yb;refine ya ?_;refine Ex.eqNil rfl sl89 rfl (fun b hb => ?_);apply Ex.nil;refine ym rfl ?_ ?_<;>intro hc1
 ·have hl0 := hb hc1;subst hl0;subst hc1;apply yb;refine yd ?_;refine X.ret ?_;refine zeS (zg itE 95 12 2 5 rfl rfl) ?_;refine zk6.mk (ts := [(2, .own 5)]) (.inr rfl) (yi) (.one (.tmp rfl (LeV.eq rfl)))
 apply yf;apply yb;refine yV itE [] ?_;refine ya ?_;refine yj ?_;refine yd ?_;refine X.ret ?_;refine zk6.mk (ts := [(2, .own 5)]) (.inr rfl) (yi) (.one (.tmp rfl (LeV.eq rfl)))
theorem zbr (m : Mn) : Fn Tryz.prog 136 [.nils, .fn 137 [.ept (fun _ : Unit => mnE m) () 0]] (yh (perfL m)) := by
 have hpl := zhk m;refine Fn.go Tryz.func136 Tryz.ntmps136 (fun g w d => ?_);apply yb;refine zcf ?_;refine yd ?_;iterate 2 apply ye
 refine zm (zax intE 3 1 2 39 22 rfl rfl) ?_;apply yc;refine yd ?_;apply X.block;have ht0 : [] = (perfL m).take 0 := by simp
 have htl : (perfL m).take (zdF m).length = perfL m := by unfold zdF; rw [List.length_map, List.take_length]
 refine X.range (sl := [2]) (fun j => ([.ptr 2 0 0 0], [(2, .box [.own 39] 22), (39, .row intE ((perfL m).take j) 3 1)])) (fun j => True) 900001 900002 rfl rfl (by decide) (fun j zs hj => by obtain ⟨i, _, rfl⟩ := zbn hj; rfl) (zb8 m) trivial rfl rfl (by decide) (Nat.zero_le _) (by simp) (fun j zs hj => by obtain ⟨i, _, rfl⟩ := zbn hj; rfl) (fun _ => rfl) rfl rfl (fun l o us => yi) (trivial) (fun j zs hj hJ l ready busy rb vs g w hb hyB => ?_) (fun hJ => ?_)
 ·have hZ1 := zbn hj;obtain ⟨i, hi, rfl⟩ := hZ1;have hst := zjK hi;have hlt : ((perfL m).take j).length <= 1000 := by simp; omega
  apply yc;refine yd ?_;refine ⟨rfl, rfl, ?_⟩;apply X.block;apply yc;iterate 2 refine ya ?_
  refine yV intE [_] ?_;iterate 2 refine yj ?_
  apply Ex.nil;refine ⟨[.ptr 2 0 0 0], [(2, .box [.own 39] 22), (39, .row intE ((perfL m).take (j + 1)) 3 1)], yi, rfl, trivial⟩
 apply yb;refine yg ?_;refine X.ret ?_;refine yo (Imp.freeze (k := 39) rfl) ?_;refine yn ?_;all_goals (first | exact congrArg yh htl | rfl)
theorem zcP (m : Mn) : Fn Tryz.prog 96 [.fn 137 [.ept (fun _ : Unit => mnE m) () 0]] (yh (perfL m)) := by
 refine Fn.go Tryz.func96 Tryz.ntmps96 (fun g w d => ?_);apply yb;refine ya ?_;apply yk;refine ya ?_;refine yq (zbr m) ?_;refine yd ?_;refine X.ret ?_;refine yn ?_;all_goals (first | rfl | (simp_all; done))
theorem zdC (m : Mn) : Fn Tryz.prog 46 [mnA m] (.tup [yh (if ckM m = 0 then perfL m else []), iv (ckM m)]) := by
 refine Fn.go Tryz.func46 Tryz.ntmps46 (fun g w d => ?_);apply yb;refine yG ?_;refine yg ?_;apply ye;apply yb;refine ya ?_;refine yq (zaM m) ?_;refine ya ?_;apply yk;refine yg ?_;refine ym rfl ?_ ?_<;>intro hc1
 ·apply yb;refine yr ?_;refine X.ret ?_;refine yo (yi (ts := [(2, yh []), (3, iv (ckM m))]) (hs := [])) ?_;refine yy ?_ ?_;all_goals (first | (rw [if_neg hc1]; done) | rfl)
 apply yf;apply yb;refine ya ?_;refine yq (zcY m) ?_;refine yq (zcP m) ?_;refine yg ?_;refine X.ret ?_;refine yy ?_ ?_;all_goals (first | (rw [if_pos hc1]; done) | exact congrArg (AV.int .i64) hc1.symm)
end Go.Rse
namespace Go.Rse
open Go Go.Proofs
attribute [local irreducible] Pur yD yE Ex X Fn Imp LeV LeB FnO It yH
structure Sp where
 Value : Int
 Rest : Bool
 Color : Bool
 Dot : Bool
 Way : Int
 deriving DecidableEq
def spE : Sp -> List AV := fun s => [iv s.Value, .bool s.Rest, .bool s.Color, .bool s.Dot, iv s.Way]
abbrev spA (s : Sp) : AV := .agg (spE s)
abbrev spsA (l : List Sp) : AV := .sl spE l
theorem zox (a b : Sp) : eqL (spE a) (spE b) = some (decide (a = b)) := by
 cases a; cases b;refine (zbA rfl (zbA rfl (zbA rfl (zbA rfl (zbA rfl rfl))))).trans ?_;have hb : ∀ a b : Bool, (a == b) = decide (a = b) := by decide
 simp [Bool.decide_and, hb]
def spOf (v w : Int) : Sp := ⟨v, decide (w = 8), decide (w = 5) || decide (w = 6) || decide (w = 7), decide (w = 2) || decide (w = 6), w⟩
theorem zoy (m : Mn) {v : Int} (h1 : 1 <= v) (n : Nat) : (wdL m v n).length <= 81 := by
 have h3 := zds m v (5 - v).toNat v (fullT m v) false;have h4 : 3 ^ (5 - v).toNat <= 3 ^ 4 := Nat.pow_le_pow_right (by decide) (by omega);have h5 : 3 ^ 4 = 81 := rfl;unfold wdL
 repeat' split
 all_goals first | (simp; done) | omega
def alI (m : Mn) (t : Tm) (v : Int) : Nat -> List Sp
 | 0 => []
 | n + 1 => if n ≠ 0 /\ t ∈ wdL m v n then alI m t v n ++ [spOf v (n : Int)] else alI m t v n
def alO (m : Mn) (t : Tm) : Nat -> List Sp
 | 0 => []
 | k + 1 => alO m t k ++ alI m t (1 + (k : Int)) 9
theorem zh5 (m : Mn) (t : Tm) (v : Int) : ∀ n, (alI m t v n).length <= n
 | 0 => Nat.le_refl _
 | n + 1 => by
  have := zh5 m t v n;unfold alI; split
  ·simp; omega
  ·omega
theorem zh6 (m : Mn) (t : Tm) : ∀ k, (alO m t k).length <= 9 * k
 | 0 => Nat.le_refl _
 | k + 1 => by
  have h1 := zh6 m t k;have h2 := zh5 m t (1 + (k : Int)) 9;unfold alO; simp; omega
theorem zoz {m : Mn} {t : Tm} {v : Int} {n : Nat} (hn : n ≠ 0) (h : t ∈ wdL m v n) (X : List Sp) : X ++ alI m t v n ++ [spOf v (n : Int)] = X ++ alI m t v (n + 1) := by
 conv => rhs; unfold alI
 rw [if_pos ⟨hn, h⟩, List.append_assoc]
theorem zmC {m : Mn} {t : Tm} {v : Int} {n : Nat} (h : n = 0 \/ ¬ t ∈ wdL m v n) (X : List Sp) : X ++ alI m t v n = X ++ alI m t v (n + 1) := by
 conv => rhs; unfold alI
 rw [if_neg (fun e => by rcases h with h | h; exact e.1 h; exact h e.2)]
def allE (m : Mn) (t : Tm) : List Sp := if bthE m t = 0 then alO m t 8 else []
theorem fnT : fnTy Tryz.prog 80 := ⟨_, _, _, Tryz.underlying80⟩
theorem zoA (j : Nat) (hj : j < 9) : (j = 0 /\ (zqd.drop ((j : Int).toNat * 4)).take 4 = [.bool false, .bool false, .bool false, .nilf]) ∨
 (j ≠ 0 /\ ∃ f, (zqd.drop ((j : Int).toNat * 4)).take 4 = [.bool (decide ((j : Int) = 8)), .bool (decide ((j : Int) = 5) || decide ((j : Int) = 6) || decide ((j : Int) = 7)), .bool (decide ((j : Int) = 2) || decide ((j : Int) = 6)), .fn f []] ∧
  ∀ (m : Mn) (v : Int), ckM m = 0 -> 1 <= v -> v <= 8 -> Fn Tryz.prog f [mnA m, iv v] (tmsA (wdL m v j))) := by
 rcases j with _ | _ | _ | _ | _ | _ | _ | _ | _ | j
 ·exact .inl ⟨rfl, rfl⟩
 ·exact .inr ⟨by decide, _, rfl, fun m v a b c => zgj m v a b c⟩
 ·exact .inr ⟨by decide, _, rfl, fun m v a b c => zgk m v a b c⟩
 ·exact .inr ⟨by decide, _, rfl, fun m v a b c => zil m v a b c⟩
 ·exact .inr ⟨by decide, _, rfl, fun m v a b c => zgl m v a b c⟩
 ·exact .inr ⟨by decide, _, rfl, fun m v a b c => zgm m v a b c⟩
 ·exact .inr ⟨by decide, _, rfl, fun m v a b c => zgn m v a b c⟩
 ·exact .inr ⟨by decide, _, rfl, fun m v a b c => zgo m v a b c⟩
 ·exact .inr ⟨by decide, _, rfl, fun m v a b c => zgp m v a b c⟩
 ·omega
attribute [local irreducible] fullT durT mulV wdL alI alO bthE tfx
set_option maxHeartbeats 4000000 in
theorem ze5 (m : Mn) (t : Tm) : Fn Tryz.prog 13 [mnA m, tmA t] (.tup [spsA (allE m t), iv (bthE m t)]) := by
 refine Fn.go Tryz.func13 Tryz.ntmps13 (fun g w d => ?_);apply yb;iterate 2 refine yG ?_
 refine yg ?_;apply ye;apply yb;iterate 2 refine ya ?_
 refine yq (zeC m t) ?_;refine ya ?_;apply yk;refine yg ?_;refine ym rfl ?_ ?_<;>intro hc1
 ·have hV : [] = allE m t := by unfold allE; rw [if_neg hc1]
  apply yb;refine yr ?_;refine X.ret ?_;refine yo (yi (ts := [(4, spsA []), (5, iv (bthE m t))]) (hs := [])) ?_;refine yy ?_ ?_;all_goals (first | exact congrArg spsA hV | rfl | exact congrArg (AV.int .i64) hc1.symm)
 apply yf;apply yb;refine yd ?_;iterate 2 apply ye
 refine zm (zg spE 48 5 7 7 rfl rfl) ?_;apply yc;refine yd ?_;apply X.block;have hq0 : [] = alO m t 0 := by unfold alO; rfl
 have hck := znS hc1
 refine zw (ι := Nat) (fun (k : Nat) => [(2, .ptr 2 0 0 0), (3, .ptr 3 0 0 0), (7, .own 7), (8, iv (1 + (k : Int)))]) (fun (k : Nat) => [(2, .box (mnE m) 24), (3, .box (tmE t) 46), (7, .row spE (alO m t k) 48 5)]) (fun (k : Nat) => k <= 8) (fun (k : Nat) => 8 - k) 0 (fun k hk => ?_) (h0 := by
  exact yA)
 apply ye;apply yb;refine yg ?_;refine ym rfl ?_ ?_<;>intro hc2
 ·apply yf;apply ye;apply X.block;apply yb;refine yq zim ?_;refine yd ?_;apply X.block;have hq1 : alO m t k = alO m t k ++ alI m t (1 + (k : Int)) 0 := by unfold alI; simp
  have hol := zh6 m t k
  refine zw (ι := Nat) (fun (j : Nat) => [(2, .ptr 2 0 0 0), (3, .ptr 3 0 0 0), (7, .own 7), (8, iv (1 + (k : Int))), (21, .agg zqd), (22, iv (j : Int))]) (fun (j : Nat) => [(2, .box (mnE m) 24), (3, .box (tmE t) 46), (7, .row spE (alO m t k ++ alI m t (1 + (k : Int)) j) 48 5)]) (fun (j : Nat) => j <= 9) (fun (j : Nat) => 9 - j) 0 (fun j hk => ?_) (h0 := by
   exact yA)
  apply yb;refine yd ?_;apply ye;refine ym rfl ?_ ?_<;>intro hc3
  ·have hil := zh5 m t (1 + (k : Int)) j;apply yf;apply ye;apply X.block;apply ye;rcases zoA j (by omega) with ⟨hj0, hpart⟩ | ⟨hj0, fw, hpart, hF⟩
   ·apply yc;refine ya ?_;refine ya (hs := zaQ ArK.h TyK.h rfl rfl (by omega) (by omega) hpart) ?_;refine yJ ?_;refine ya ?_;refine yj ?_;apply Ex.nil;apply ye;refine zC [26,27,28,29,30,31,32,33,34,35,36,37] [0,1,3,7,15,31,15,15,255,15,1023,2047] mo ?_;(iterate 2 refine yl ?_);refine ChM.step rfl rfl rfl (Pur.stepA (zka fnT rfl rfl)) rfl ?_;refine yl ?_;(iterate 6 refine ChM.gn (.any) ?_);refine ChM.gn (.bool false) ?_;refine yl ?_;refine zb ?_;apply Ex.nil;refine ym rfl ?_ ?_<;>intro hc4
    ·simp at hc4
    have hst := zmC (m := m) (t := t) (v := 1 + (k : Int)) (n := j) (.inl hj0) (alO m t k);apply yf;apply yc;refine yg ?_;refine yY (j + 1) (hI := yA)
   ·apply yc;refine ya ?_;refine ya (hs := zaQ ArK.h TyK.h rfl rfl (by omega) (by omega) hpart) ?_;refine yJ ?_;refine ya ?_;refine yj ?_;apply Ex.nil;apply ye;refine zC [26,27,28,29,30,31,32,33,34,35,36,37] [0,1,3,7,15,31,15,15,255,15,1023,2047] mo ?_;(iterate 2 refine yl ?_);refine ChM.step rfl rfl rfl (Pur.stepA (znL fnT rfl rfl)) rfl ?_;refine yl ?_;(iterate 4 refine ChM.gi ?_);refine ChM.cg (hF m (1 + (k : Int)) hck.1 (by omega) (by omega)) ?_;refine ChM.gi ?_;refine ChM.cg (zi (wdL m (1 + (k : Int)) j) t (by have := zoy m (show 1 <= 1 + (k : Int) by omega) j; omega)) ?_;refine yl ?_;refine zb ?_;apply Ex.nil;refine ym rfl ?_ ?_<;>intro hc5
    ·have hst := zoz (v := 1 + (k : Int)) hj0 hc5.2 (alO m t k);apply yc;(iterate 10 refine ya ?_);refine yV spE [spOf (1 + (k : Int)) (j : Int)] ?_;refine yj ?_;refine yd ?_;apply yc;refine yg ?_;refine yY (j + 1) (hI := yA)
    ·have hst := zmC (m := m) (t := t) (v := 1 + (k : Int)) (n := j) (.inr (by rcases hc5 with h | h; exact absurd h (by decide); exact h)) (alO m t k);apply yf;apply yc;refine yg ?_;refine yY (j + 1) (hI := yA)
  ·have hj9 : j = 9 := by omega
   subst hj9;have hst : alO m t k ++ alI m t (1 + (k : Int)) 9 = alO m t (k + 1) := by conv => rhs; unfold alO
   apply X.exit;apply yc;refine yr ?_;refine yY (k + 1) (hI := yA)
 ·have hk8 : k = 8 := by omega
  subst hk8;have hV : alO m t 8 = allE m t := by unfold allE; rw [if_pos hc1]
  apply X.exit;apply yb;refine yr ?_;refine X.ret ?_;refine yo (Imp.freeze (k := 7) rfl) ?_;refine yy ?_ ?_;all_goals (first | exact congrArg spsA hV | rfl | exact congrArg (AV.int .i64) hc1.symm)
end Go.Rse
namespace Go.Rse
open Go Go.Proofs
end Go.Rse
