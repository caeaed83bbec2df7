/-
  Walks: the durations of a run's notes and rests.
-/
import Derived.Test.YtbilklnipfabpaaGreatDoorPJColor4
import Derived.Test.YtbilklnipfabpaaGreatDoorPLogC
import Derived.Test.YtbilklnipfabpaaGreatDoorPDot9
import Derived.Test.YtbilklnipfabpaaGreatDoorPJFull1
import Derived.Test.YtbilklnipfabpaaGreatDoorPJMens2
import Derived.Test.YtbilklnipfabpaaGreatDoorPJTime
set_option linter.unusedSimpArgs false
set_option linter.unusedVariables false
namespace Go.Rse
open Go Go.Proofs
attribute [local irreducible] Pur yx yz Ex X Fn Imp LeV LeB FnO It yC
theorem zjx : mpOk Tryz.prog 203 3 46 := ⟨by kernel_rfl, _, Tryz.underlying3⟩
theorem zhK : ∃ d, Tryz.prog.underlying 3 = some (.int d) /\ d = .i64 := ⟨_, Tryz.underlying3, rfl⟩
attribute [local irreducible] zaM zu zR zai ckD prL za7 dvK mget mput bsT duE duV fullT durT clr
set_option maxHeartbeats 2000000 in
theorem zhL (m : Mn) (l : List Sg) (mi : List Int) (hl : l.length <= 1000) (hmi : mi.length <= 1000) : Fn Tryz.prog 90 [mnA m, sgsA l, yg mi] (.tup [tmsA (duV m l mi), iv (duE m l mi)]) := by
 have hpl := zhG m l;have hm0 : [] = za7 (prL m l) mi 0 := by unfold za7; rfl
 refine Fn.go Tryz.func90 Tryz.ntmps90 (fun g w d => ?_);apply yb;refine yF ?_;iterate 2 refine ya ?_
 apply yj;iterate 2 refine ya ?_
 refine z6 [(39, 39)] (zcD m l hl) ?_;refine ze ?_;apply yd;apply yb;refine yh ?_;refine yk rfl ?_ ?_<;>intro hc1
 ·have hE := zsa (mi := mi) hc1;have hV := zl7 hE hc1;apply yb;refine yn ?_;refine X.ret ?_;refine RetQ.imp (yi (ts := [(6, tmsA []), (7, iv (ckD m l))]) (hs := [])) ?_;refine yu ?_ ?_;all_goals (first | exact congrArg tmsA hV | exact congrArg (AV.int .i64) hE)
 apply yf;iterate 2 apply yd
 refine X.imp (Imp.freeze (k := 39) rfl) ?_;apply yc;refine ze ?_;refine yk rfl ?_ ?_<;>intro hc2
 ·have hE := zsb (mi := mi) hc1 (by omega);have hV := zl7 hE (by decide);apply yb;refine yh ?_;refine X.ret ?_;refine RetQ.imp (yi (ts := [(6, tmsA []), (7, iv 2)]) (hs := [])) ?_;refine yu ?_ ?_;all_goals (first | exact congrArg tmsA hV | exact congrArg (AV.int .i64) hE)
 apply yf;apply yb;refine Ex.stepA (zeS (k := 32) (fun i : Int => iv i) tmA) rfl rfl ?_;refine ye ?_;apply yd;apply yb;refine yn ?_;apply X.block
 refine zh (ι := Nat) (fun (k : Nat) => [(1, sgsA l), (2, yg mi), (3, .ptr 3 0 0 0), (10, .mp 32), (33, yg (prL m l)), (34, iv (prL m l).length), (35, iv (k : Int))]) (fun (k : Nat) => [(3, .box (mnE m) 24), (32, .mpb (fun i : Int => iv i) tmA (za7 (prL m l) mi k))]) (fun (k : Nat) => k <= (prL m l).length /\ mnK mi k) (fun (k : Nat) => (prL m l).length - k) 0 (fun k hk => ?_) (hJ := by
  exact ⟨by omega, zr9 mi⟩) (h0 := by
  exact yw)
 obtain ⟨hk1, hk2⟩ := hk;apply yb;refine ye ?_;apply yd;refine yk rfl ?_ ?_<;>intro hc3
 ·obtain ⟨x, hx⟩ : ∃ x, (prL m l)[k]? = some x := ⟨_, lgg (by omega)⟩;have hx2 : (prL m l)[(k : Int).toNat]? = some x := by simpa using hx
  have hxb := zqC hx;obtain ⟨y, hy⟩ : ∃ y, mi[k]? = some y := ⟨_, lgg (by omega)⟩;have hy2 : mi[(k : Int).toNat]? = some y := by simpa using hy
  apply yf;apply yd;apply X.block;apply yb;iterate 5 refine ya ?_
  apply yj;refine zT ?_;apply X.block;apply yb;refine yh ?_;refine yk rfl ?_ ?_<;>intro hc4
  ·have hst := zli (p := prL m l) hy hc4;apply yf;apply yc;refine yh ?_
   refine yP (k + 1) (hJ := by
    exact ⟨by omega, zpA hk2 hy (by omega)⟩) (hI := yw)
  ·apply yb;refine yh ?_;refine yk rfl ?_ ?_<;>intro hc5
   ·have hst := zlh hx hy hc5;apply yc;(iterate 7 refine ya ?_);refine zac (zc8 (venc := tmA) ⟨3, 2⟩ rfl rfl rfl rfl rfl zjx zhK (fun _ _ => rfl)) ?_;refine zac (zc8 (venc := tmA) ⟨1, 2⟩ rfl rfl rfl rfl rfl zjx zhK (fun _ _ => rfl)) ?_;apply Ex.nil;apply yc;refine yh ?_
    refine yP (k + 1) (hJ := by
     exact ⟨by omega, zpA hk2 hy (by omega)⟩) (hI := yw)
   ·have hE := zsc hc1 (zl5 hy hc4 hc5);have hV := zl7 hE (by decide);apply yb;refine yh ?_;refine X.ret ?_;refine RetQ.imp (yi (ts := [(6, tmsA []), (7, iv 2)]) (hs := [])) ?_;refine yu ?_ ?_;all_goals (first | exact congrArg tmsA hV | exact congrArg (AV.int .i64) hE)
 ·have hkl : k = (prL m l).length := by omega
  subst hkl;have hok : mnOk mi = true := zqB (by rw [show mi.length = (prL m l).length by omega]; exact hk2);have hE := zsd hc1 (by omega) hok;have hV := zse hE;have hd0 : [] = dvK m l (duM m l mi) 0 := by unfold dvK; rfl
  apply X.exit;apply yb;refine ye ?_;iterate 2 apply yd
  refine X.imp (y5 tmE 46 2 13 13 rfl rfl) ?_;apply yc;refine yn ?_;apply X.block
  refine zh (ι := Nat) (fun (k : Nat) => [(3, .ptr 3 0 0 0), (10, .mp 32), (13, .own 13), (56, sgsA l), (57, iv l.length), (58, iv (k : Int))]) (fun (k : Nat) => [(3, .box (mnE m) 24), (32, .mpb (fun i : Int => iv i) tmA (duM m l mi)), (13, .row tmE (dvK m l (duM m l mi) k) 46 2)]) (fun (k : Nat) => k <= l.length) (fun (k : Nat) => l.length - k) 0 (fun k hk => ?_) (h0 := by
   exact yw)
  apply yb;refine ye ?_;apply yd;refine yk rfl ?_ ?_<;>intro hc6
  ·obtain ⟨s, hs⟩ : ∃ s, l[k]? = some s := ⟨_, lgg (by omega)⟩;have hs2 : l[(k : Int).toNat]? = some s := by simpa using hs
   have hlen := zkh m l (duM m l mi) k;apply yf;apply yd;apply X.block;apply yb;(iterate 3 refine ya ?_);refine yH ?_;refine ya ?_;refine Ex.mo ?_;apply yj;(iterate 2 refine ya ?_);refine ya (hs := znB (venc := tmA) tmZ rfl rfl rfl zjx zhK (fun _ _ => rfl) (znD ze46)) ?_;(iterate 3 refine ya ?_);refine yH ?_;refine Ex.mo ?_;refine ye ?_;apply yd;apply X.block;apply yb;refine zT ?_;refine yk rfl ?_ ?_<;>intro hc7
   ·have hrow := zhH (m := m) (M := duM m l mi) hs hc7;apply X.exit;apply yc;refine yh ?_;refine yP (k + 1) (hI := yw)
   have hval := zbm hc1 hs hc7;have hrow := zhI (m := m) (M := duM m l mi) hs hc7;apply yb;refine yh ?_;refine yk rfl ?_ ?_<;>intro hc8
   ·rw [← zqA (z := tmZ) hc8] at hrow;apply yf;apply yc;(iterate 2 refine ya ?_);refine y2 tmE [⟨_, _⟩] ?_;refine Ex.mo ?_;refine ye ?_;apply yc;refine yh ?_;refine yP (k + 1) (hI := yw)
   ·apply yb;refine ya ?_;refine yq (zam _) ?_;refine ye ?_;refine yk rfl ?_ ?_<;>intro hc9
    ·rw [← zl4 hc8, ← zr7 hc9] at hrow;apply yc;(iterate 3 refine ya ?_);refine yq (ziG m hval.1 s.Value hval.2.1 hval.2.2) ?_;refine Ex.mo ?_;apply Ex.nil;apply yc;(iterate 2 refine ya ?_);refine y2 tmE [⟨_, _⟩] ?_;refine Ex.mo ?_;refine ye ?_;apply yc;refine yh ?_;refine yP (k + 1) (hI := yw)
    ·rw [← zl4 hc8, ← zr8 hc9] at hrow;apply yc;(iterate 3 refine ya ?_);refine yq (zcb hval.1 hval.2.1 hval.2.2) ?_;(iterate 3 refine ya ?_);refine Ex.mo ?_;apply Ex.nil;apply yc;(iterate 2 refine ya ?_);refine y2 tmE [⟨_, _⟩] ?_;refine Ex.mo ?_;refine ye ?_;apply yc;refine yh ?_;refine yP (k + 1) (hI := yw)
  ·have hkl2 : k = l.length := by omega
   subst hkl2;apply X.exit;apply yb;refine yn ?_;refine X.ret ?_;refine RetQ.imp (Imp.freeze (k := 13) rfl) ?_;refine yu ?_ ?_;all_goals (first | exact congrArg tmsA hV | exact congrArg (AV.int .i64) hE)
end Go.Rse
namespace Go.Rse
open Go Go.Proofs
structure Ite where
 Sign : Int
 Value : Int
 Rest : Bool
 Color : Bool
 Fixed : Bool
 Cut : Int
 Dur : Tm
 Before : Tm
 After : Tm
 deriving DecidableEq
instance : Inhabited Ite := ⟨⟨0, 0, false, false, false, 0, ⟨0, 0⟩, ⟨0, 0⟩, ⟨0, 0⟩⟩⟩
def itE : Ite -> List AV := fun x => [.int .i64 x.Sign, .int .i64 x.Value, .bool x.Rest, .bool x.Color, .bool x.Fixed, .int .i64 x.Cut, .int .i64 x.Dur.N, .int .i64 x.Dur.D, .int .i64 x.Before.N, .int .i64 x.Before.D, .int .i64 x.After.N, .int .i64 x.After.D]
abbrev itA (x : Ite) : AV := .agg (itE x)
abbrev itsA (l : List Ite) : AV := .sl itE l
instance : EncK itE 12 := ⟨fun _ => rfl⟩
def ntN (l : List Sg) : Nat -> Nat
 | 0 => 0
 | k + 1 => match l[k]? with
  | some s => if s.Kind = 3 then ntN l k else ntN l k + 1
  | none => ntN l k
theorem zft {l : List Sg} {k : Nat} {s : Sg} (hs : l[k]? = some s) (h : s.Kind = 3) : ntN l (k + 1) = ntN l k := by
 simp only [ntN, hs, if_pos h]
theorem zdC {l : List Sg} {k : Nat} {s : Sg} (hs : l[k]? = some s) (h : ¬ s.Kind = 3) : ntN l (k + 1) = ntN l k + 1 := by
 simp only [ntN, hs, if_neg h]
theorem ziD (l : List Sg) (k : Nat) : ntN l k <= ntN l (k + 1) /\ ntN l (k + 1) <= ntN l k + 1 := by
 cases hs : l[k]? with
 | none => simp [ntN, hs]
 | some s => by_cases h : s.Kind = 3 <;> simp [ntN, hs, h]
theorem zd4 (l : List Sg) : ∀ (n k : Nat), k <= n -> ntN l k <= ntN l n
 | 0, k, h => by have : k = 0 := by omega
                 subst this; exact Nat.le_refl _
 | n + 1, k, h => by
  rcases Nat.lt_or_ge n k with h1 | h1
  ·have : k = n + 1 := by omega
   subst this; exact Nat.le_refl _
  ·have := zd4 l n k h1;have := (ziD l n).1;omega
theorem zjy (l : List Sg) : ∀ k, ntN l k <= k
 | 0 => Nat.le_refl _
 | k + 1 => by have := zjy l k; have := (ziD l k).2; omega
theorem zhM (ch : List Int) (l : List Sg) : ∀ k, (mkK ch l k).1.length = ntN l k
 | 0 => rfl
 | k + 1 => by
  have h := zhM ch l k;cases hs : l[k]? with
  | none => simp only [mkK, ntN, hs]; exact h
  | some s =>
   by_cases hK : s.Kind = 3
   ·rw [zdV hs hK, zft hs hK]; simpa using h
   ·rw [zcz hs hK, zdC hs hK]; simpa using h
theorem zmb (m : Mn) (l : List Sg) (M : List (Int × Tm)) : ∀ k, (dvK m l M k).length = ntN l k
 | 0 => rfl
 | k + 1 => by
  have h := zmb m l M k;cases hs : l[k]? with
  | none => simp only [dvK, ntN, hs]; exact h
  | some s =>
   by_cases hK : s.Kind = 3
   ·rw [← zhH hs hK, zft hs hK]; exact h
   ·rw [← zhI hs hK, zdC hs hK]; simpa using h
theorem zhN {m : Mn} {l : List Sg} {M : List (Int × Tm)} {k : Nat} {s : Sg} (hs : l[k]? = some s) (h : ¬ s.Kind = 3) : ∀ n, k < n -> (dvK m l M n)[ntN l k]? = some ((mget (k : Int) M).getD (bsT m s))
 | 0, hn => by omega
 | n + 1, hn => by
  rcases Nat.lt_or_ge k n with h1 | h1
  ·have ih := zhN (m := m) (M := M) hs h n h1;have hlt : ntN l k < (dvK m l M n).length := (List.getElem?_eq_some_iff.1 ih).1;cases hz : l[n]? with
   | none => simp only [dvK, hz]; exact ih
   | some z =>
    by_cases hK : z.Kind = 3
    ·rw [← zhH hz hK]; exact ih
    ·rw [← zhI hz hK, List.getElem?_append_left hlt]; exact ih
  ·have : k = n := by omega
   subst this;rw [← zhI hs h, ← zmb m l M k, List.getElem?_append_right (Nat.le_refl _), Nat.sub_self]; rfl
def itOf (k : Nat) (s : Sg) (c : Int) (a : Bool) (d : Tm) : Ite :=
 ⟨k, s.Value, decide (s.Kind = 2), clr s, a || decide (s.Kind = 2) || clr s || decide (c = s.Value), c, if a = true then mulV d ⟨3, 2⟩ else d, ⟨0, 1⟩, ⟨0, 1⟩⟩
def itK (l : List Sg) (c : List Int) (a : List Bool) (d : List Tm) : Nat -> List Ite
 | 0 => []
 | k + 1 => match l[k]? with
  | some s => if s.Kind = 3 then itK l c a d k else itK l c a d k ++ [itOf k s (c.getD (ntN l k) 0) (a.getD (ntN l k) false) (d.getD (ntN l k) ⟨0, 0⟩)]
  | none => itK l c a d k
section
variable {l : List Sg} {c : List Int} {a : List Bool} {d : List Tm} {k : Nat} {s : Sg}
theorem zhO (hs : l[k]? = some s) (h : s.Kind = 3) : itK l c a d k = itK l c a d (k + 1) := by
 conv => rhs; unfold itK
 rw [hs]; simp only [if_pos h]
theorem zqF {x : Int} {y : Bool} {z : Tm} (hs : l[k]? = some s) (h : ¬ s.Kind = 3) (hx : c[ntN l k]? = some x) (hy : a[ntN l k]? = some y) (hz : d[ntN l k]? = some z) : itK l c a d k ++ [itOf k s x y z] = itK l c a d (k + 1) := by
 conv => rhs; unfold itK
 rw [hs]; simp only [if_neg h];rw [zbC hx, zbC hy, zbC hz]
end
theorem zsf (l : List Sg) (c : List Int) (a : List Bool) (d : List Tm) : [] = itK l c a d 0 := rfl
theorem zf1 (l : List Sg) (c : List Int) (a : List Bool) (d : List Tm) : ∀ k, (itK l c a d k).length = ntN l k
 | 0 => rfl
 | k + 1 => by
  have h := zf1 l c a d k;cases hs : l[k]? with
  | none => simp only [itK, ntN, hs]; exact h
  | some s =>
   by_cases hK : s.Kind = 3
   ·rw [← zhO hs hK, zft hs hK]; exact h
   ·simp only [itK, hs, if_neg hK, zdC hs hK]; simpa using h
def zpB (m : Mn) (v : Int) : Bool := decide (mulE (fullT m v) ⟨3, 2⟩ = 0) && decide (mulE (durT m v) ⟨3, 2⟩ = 0)
theorem zlk : zeY zpB = true := by kernel_rfl
theorem zmc {m : Mn} {v : Int} (hm : ckM m = 0) (h1 : 1 <= v) (h8 : v <= 8) : mulE (fullT m v) ⟨3, 2⟩ = 0 /\ mulE (durT m v) ⟨3, 2⟩ = 0 := by
 have h := zbh zlk hm h1 h8;unfold zpB at h;simpa using h
theorem zn6 {m : Mn} {s : Sg} (hm : ckM m = 0) (h1 : 1 <= s.Value) (h8 : s.Value <= 8) : mulE (bsT m s) ⟨3, 2⟩ = 0 := by
 unfold bsT; split
 ·exact (zmc hm h1 h8).2
 ·exact (zmc hm h1 h8).1
theorem zaO (p mi : List Int) (q : Int) : ∀ k x, mget q (za7 p mi k) = some x -> x = ⟨3, 2⟩ \/ x = ⟨1, 2⟩
 | 0, x, h => by simp [za7, zl2] at h
 | k + 1, x, h => by
  unfold za7 at h;split at h
  ·rw [zda, zda] at h;split at h
   ·injection h with h; exact .inr h.symm
   ·split at h
    ·injection h with h; exact .inl h.symm
    ·exact zaO p mi q k x h
  ·exact zaO p mi q k x h
theorem zmd {m : Mn} {l : List Sg} {mi : List Int} {q : Int} {s : Sg} (hm : ckM m = 0) (h1 : 1 <= s.Value) (h8 : s.Value <= 8) : mulE ((mget q (duM m l mi)).getD (bsT m s)) ⟨3, 2⟩ = 0 := by
 cases h : mget q (duM m l mi) with
 | none => exact zn6 hm h1 h8
 | some x =>
  rcases zaO _ _ _ _ _ h with rfl | rfl
  ·show mulE ⟨3, 2⟩ ⟨3, 2⟩ = 0; decide +kernel
  ·show mulE ⟨1, 2⟩ ⟨3, 2⟩ = 0; decide +kernel
def itmE (m : Mn) (l : List Sg) (ch mi : List Int) : Int := if mkE m l ch = 0 then duE m l mi else mkE m l ch
def itmV (m : Mn) (l : List Sg) (ch mi : List Int) : List Ite := if itmE m l ch mi = 0 then itK l (mkC m l ch) (mkA m l ch) (duV m l mi) l.length else []
theorem zjz {m : Mn} {l : List Sg} {ch : List Int} (h : ¬ ckD m l = 0) : mkE m l ch = ckD m l := by unfold mkE; rw [if_neg h]
theorem zf2 {m : Mn} {l : List Sg} {ch : List Int} (h : mkE m l ch = 0) : ckD m l = 0 := by
 apply Classical.byContradiction; intro h2;rw [zjz h2] at h; exact h2 h
theorem zme {m : Mn} {l : List Sg} {ch mi : List Int} (h : ¬ mkE m l ch = 0) : itmE m l ch mi = mkE m l ch := by unfold itmE; rw [if_neg h]
theorem zmf {m : Mn} {l : List Sg} {ch mi : List Int} (h : mkE m l ch = 0) : itmE m l ch mi = duE m l mi := by unfold itmE; rw [if_pos h]
theorem zjA {m : Mn} {l : List Sg} {ch mi : List Int} (h : ¬ itmE m l ch mi = 0) : itmV m l ch mi = [] := by unfold itmV; rw [if_neg h]
theorem zhP {m : Mn} {l : List Sg} {ch mi : List Int} (h : itmE m l ch mi = 0) : itmV m l ch mi = itK l (mkC m l ch) (mkA m l ch) (duV m l mi) l.length := by unfold itmV; rw [if_pos h]
theorem zsg {m : Mn} {l : List Sg} {ch mi : List Int} {k : Nat} {s : Sg} (h1 : mkE m l ch = 0) (h2 : duE m l mi = 0) (hs : l[k]? = some s) (h : ¬ s.Kind = 3) :
 ∃ x y z, (mkC m l ch)[ntN l k]? = some x /\ (mkA m l ch)[ntN l k]? = some y /\ (duV m l mi)[ntN l k]? = some z /\ mulE z ⟨3, 2⟩ = 0 /\ ntN l k < ntN l l.length /\ ckM m = 0 /\ 1 <= s.Value /\ s.Value <= 8 /\ (z = bsT m s \/ z = ⟨3, 2⟩ \/ z = ⟨1, 2⟩) := by
 have hk : k < l.length := (List.getElem?_eq_some_iff.1 hs).1
 have hlt : ntN l k < ntN l l.length := by
  have := zd4 l l.length (k + 1) hk;rw [zdC hs h] at this; omega
 obtain ⟨hm, v1, v8⟩ := zbm (zf2 h1) hs h;have c1 : (mkC m l ch).length = ntN l l.length := by unfold mkC; rw [if_pos h1]; exact zhM ch l l.length
 have c2 : (mkA m l ch).length = ntN l l.length := by unfold mkA; rw [if_pos h1, ← (zdW ch l l.length).1]; exact zhM ch l l.length
 refine ⟨_, _, _, lgg (by omega), lgg (by omega), ?_, zmd (l := l) (mi := mi) (q := (k : Int)) (s := s) hm v1 v8, hlt, hm, v1, v8, ?_⟩
 ·unfold duV; rw [if_pos h2];exact zhN hs h l.length hk
 ·cases hq : mget (k : Int) (duM m l mi) with
  | none => exact .inl rfl
  | some x => exact .inr (zaO _ _ _ _ _ hq)
section
variable {k : Nat} {s : Sg} {x : Int} {y : Bool} {z : Tm}
def itL (k : Nat) (s : Sg) (f : Bool) (x : Int) (z : Tm) : Ite := ⟨k, s.Value, decide (s.Kind = 2), decide (s.Kind = 1) && s.Color, f, x, z, ⟨0, 1⟩, ⟨0, 1⟩⟩
theorem zsh (hy : y = true) : itL k s true x (mulV z ⟨3, 2⟩) = itOf k s x y z := by subst hy; rfl
theorem zmg (hy : y = false) (h : s.Kind = 2 \/ clr s = true \/ x = s.Value) : itL k s true x z = itOf k s x y z := by
 subst hy
 have : (false || decide (s.Kind = 2) || clr s || decide (x = s.Value)) = true := by
  rcases h with h | h | h <;> simp [h]
 unfold itOf itL; rw [this]; rfl
theorem zsi (hy : y = false) (h1 : ¬ s.Kind = 2) (h2 : clr s = false) (h3 : ¬ x = s.Value) : itL k s false x z = itOf k s x y z := by
 subst hy;have : (false || decide (s.Kind = 2) || clr s || decide (x = s.Value)) = false := by simp [h1, h2, h3]
 unfold itOf itL; rw [this]; rfl
end
end Go.Rse
namespace Go.Rse
open Go Go.Proofs
attribute [local irreducible] Pur yx yz Ex X Fn Imp LeV LeB FnO It yC
def tfx (t : Tm) (l : List Tm) : Int := if l.findIdx (fun u => decide (t = u)) < l.length then (l.findIdx (fun u => decide (t = u)) : Int) else -1
theorem zn7 {t : Tm} {l : List Tm} {k : Nat} {v : Tm} (hv : l[k]? = some v) (hp : t = v) (hJ : ∀ i u, i < k -> l[i]? = some u -> ¬ t = u) : tfx t l = k := by
 have hk : k < l.length := (List.getElem?_eq_some_iff.1 hv).1;have hg : l[k] = v := (List.getElem?_eq_some_iff.1 hv).2;have : l.findIdx (fun u => decide (t = u)) = k := (List.findIdx_eq hk).2 ⟨by rw [hg]; simpa using hp, fun j hj => by simpa using hJ j _ hj (lgg (by omega))⟩;unfold tfx; rw [this, if_pos hk]
theorem zmh {t : Tm} {l : List Tm} (hJ : ∀ i u, i < l.length -> l[i]? = some u -> ¬ t = u) : tfx t l = -1 := by
 have : l.findIdx (fun u => decide (t = u)) = l.length := List.findIdx_eq_length.2 fun x hx => by
  obtain ⟨i, hi⟩ := List.mem_iff_getElem?.1 hx;simpa using hJ i x (List.getElem?_eq_some_iff.1 hi).1 hi
 unfold tfx; rw [if_neg (by omega)]
theorem zn8 (t : Tm) (l : List Tm) : decide (0 <= tfx t l) = decide (t ∈ l) := by
 by_cases h : t ∈ l
 ·have : l.findIdx (fun u => decide (t = u)) < l.length := List.findIdx_lt_length_of_exists ⟨t, h, by simp⟩;simp only [tfx, if_pos this, h]; simp
 ·have h2 : l.findIdx (fun u => decide (t = u)) = l.length := List.findIdx_eq_length.2 fun u hu => decide_eq_false fun e => h (e ▸ hu)
  have : ¬ l.findIdx (fun u => decide (t = u)) < l.length := by omega
  simp only [tfx, if_neg this, h]; simp
theorem zbo {α : Type} {l : List α} {j : Nat} {x : α} (h : l[j]? = some x) : l.take j ++ [x] = l.take (j + 1) := by
 rw [List.take_add_one, h]; rfl
theorem zg6 (m : Mn) : (perfL m).length <= 4 := by
 unfold perfL;refine Nat.le_trans (List.length_filter_le _ _) ?_;simp
attribute [local irreducible] tfx perfL
theorem zay (l : List Tm) (t : Tm) (hl : l.length <= 4000000000) : Fn Tryz.prog 85 [tmsA l, tmA t] (iv (tfx t l)) := by
 refine Fn.go Tryz.func85 Tryz.ntmps85 (fun g w d => ?_);apply yb;refine yF ?_;refine ye ?_;apply yd;apply yb;refine yn ?_;apply X.block
 refine zh (ι := Nat) (fun (k : Nat) => [(0, tmsA l), (3, .ptr 3 0 0 0), (7, iv l.length), (8, iv (k : Int))]) (fun (k : Nat) => [(3, .box (tmE t) 46)]) (fun (k : Nat) => k <= l.length /\ ∀ i u, i < k -> l[i]? = some u -> ¬ t = u) (fun (k : Nat) => l.length - k) 0 (fun k hk => ?_) (hJ := by
  exact ⟨by omega, fun i u h => absurd h (Nat.not_lt_zero i)⟩)
 obtain ⟨hk1, hk2⟩ := hk;apply yb;refine ye ?_;apply yd;refine yk rfl ?_ ?_<;>intro hc1
 ·obtain ⟨v, hv⟩ : ∃ v, l[k]? = some v := ⟨_, lgg (by omega)⟩;have hv2 : l[(k : Int).toNat]? = some v := by simpa using hv
  apply yf;apply yd;apply X.block;apply yb;refine yh ?_;apply yd;refine zy [11,12,13,14,15,16] [0,0,0,6,14,31] mo ?_;iterate 6 refine yl ?_
  refine y7 ?_;apply Ex.nil;refine yk rfl ?_ ?_<;>intro hc2
  ·apply yb;refine yh ?_;refine X.ret ?_;refine ym ?_;all_goals (congr 1; exact (zn7 hv hc2 hk2).symm)
  apply yf;apply yc;refine yh ?_
  refine yP (k + 1) (hJ := by
   refine ⟨by omega, fun i u hi hu => ?_⟩;rcases Nat.lt_succ_iff_lt_or_eq.1 hi with h | h
   ·exact hk2 i u h hu
   ·subst h; rw [hv] at hu; injection hu with hu; subst hu; exact hc2)
 ·apply X.exit;apply yb;refine ye ?_;refine X.ret ?_;refine ym ?_;all_goals (congr 1; exact (zmh (fun i u hi => hk2 i u (by omega))).symm)
theorem zr (l : List Tm) (t : Tm) (hl : l.length <= 4000000000) : Fn Tryz.prog 41 [tmsA l, tmA t] (.bool (decide (t ∈ l))) := by
 refine Fn.go Tryz.func41 Tryz.ntmps41 (fun g w d => ?_);apply yb;refine yF ?_;refine ya ?_;apply yj;iterate 2 refine ya ?_
 refine yq (zay l t hl) ?_;refine yh ?_;refine X.ret ?_;refine ym ?_;all_goals (congr 1; exact zn8 t l)
theorem zaz (l : List Ite) (hl : l.length <= 4000000) : FnO Tryz.prog 94 [itsA l] [] [] (.own 5) [(5, .row itE l 95 12)] := by
 refine FnO.intro (ts := [(0, itsA l)]) (rv := [.tmp 2]) (n := 8) (cs := []) (by kernel_rfl) Tryz.func94 rfl Tryz.ntmps94 rfl rfl (by simp) rfl rfl rfl rfl (fun g w d vs => ?_);apply yb;refine ye ?_;apply yd;apply yb;refine ya ?_;refine Ex.eqNil rfl sl89 rfl (fun b hb => ?_);apply Ex.nil;refine yk rfl ?_ ?_<;>intro hc1
 ·have hl0 := hb hc1;subst hl0;subst hc1;apply yb;refine ye ?_;refine X.ret ?_;refine zkW.imp (y5 itE 95 12 2 5 rfl rfl) ?_;refine zkW.mk (ts := [(2, .own 5)]) (.inr rfl) (yi) (.one (.tmp rfl (LeV.eq rfl)))
 apply yf;apply yb;refine y2 itE [] ?_;refine ya ?_;refine Ex.mo ?_;refine ye ?_;refine X.ret ?_;refine zkW.mk (ts := [(2, .own 5)]) (.inr rfl) (yi) (.one (.tmp rfl (LeV.eq rfl)))
theorem zbp (m : Mn) : Fn Tryz.prog 136 [.nils, .fn 137 [.ept (fun _ : Unit => mnE m) () 0]] (yg (perfL m)) := by
 have hpl := zg6 m;refine Fn.go Tryz.func136 Tryz.ntmps136 (fun g w d => ?_);apply yb;refine zcu ?_;refine ye ?_;iterate 2 apply yd
 refine X.imp (zaU intE 3 1 2 39 22 rfl rfl) ?_;apply yc;refine ye ?_;apply X.block;have ht0 : [] = (perfL m).take 0 := by simp
 have htl : (perfL m).take (zdx m).length = perfL m := by unfold zdx; rw [List.length_map, List.take_length]
 refine X.range (sl := [2]) (fun j => ([.ptr 2 0 0 0], [(2, .box [.own 39] 22), (39, .row intE ((perfL m).take j) 3 1)])) (fun j => True) 900001 900002 rfl rfl (by decide) (fun j zs hj => by obtain ⟨i, _, rfl⟩ := zbi hj; rfl) (zb1 m) trivial rfl rfl (by decide) (Nat.zero_le _) (by simp) (fun j zs hj => by obtain ⟨i, _, rfl⟩ := zbi hj; rfl) (fun _ => rfl) rfl rfl (fun l o us => yi) (trivial) (fun j zs hj hJ l ready busy rb vs g w hb hyB => ?_) (fun hJ => ?_)
 ·have hZ1 := zbi hj;obtain ⟨i, hi, rfl⟩ := hZ1;have hst := zbo hi;have hlt : ((perfL m).take j).length <= 1000 := by simp; omega
  apply yc;refine ye ?_;refine ⟨rfl, rfl, ?_⟩;apply X.block;apply yc;iterate 2 refine ya ?_
  refine y2 intE [_] ?_;iterate 2 refine Ex.mo ?_
  apply Ex.nil;refine ⟨[.ptr 2 0 0 0], [(2, .box [.own 39] 22), (39, .row intE ((perfL m).take (j + 1)) 3 1)], yi, rfl, trivial⟩
 apply yb;refine yh ?_;refine X.ret ?_;refine RetQ.imp (Imp.freeze (k := 39) rfl) ?_;refine ym ?_;all_goals (first | exact congrArg yg htl | rfl)
theorem zcE (m : Mn) : Fn Tryz.prog 96 [.fn 137 [.ept (fun _ : Unit => mnE m) () 0]] (yg (perfL m)) := by
 refine Fn.go Tryz.func96 Tryz.ntmps96 (fun g w d => ?_);apply yb;refine ya ?_;apply yj;refine ya ?_;refine yq (zbp m) ?_;refine ye ?_;refine X.ret ?_;refine ym ?_;all_goals (first | rfl | (simp_all; done))
theorem zbP (m : Mn) : Fn Tryz.prog 46 [mnA m] (.tup [yg (if ckM m = 0 then perfL m else []), iv (ckM m)]) := by
 refine Fn.go Tryz.func46 Tryz.ntmps46 (fun g w d => ?_);apply yb;refine yF ?_;refine yh ?_;apply yd;apply yb;refine ya ?_;refine yq (zcf m) ?_;refine ya ?_;apply yj;refine yh ?_;refine yk rfl ?_ ?_<;>intro hc1
 ·apply yb;refine yn ?_;refine X.ret ?_;refine RetQ.imp (yi (ts := [(2, yg []), (3, iv (ckM m))]) (hs := [])) ?_;refine yu ?_ ?_;all_goals (first | (rw [if_neg hc1]; done) | rfl)
 apply yf;apply yb;refine ya ?_;refine yq (zcM m) ?_;refine yq (zcE m) ?_;refine yh ?_;refine X.ret ?_;refine yu ?_ ?_;all_goals (first | (rw [if_pos hc1]; done) | exact congrArg (AV.int .i64) hc1.symm)
end Go.Rse
namespace Go.Rse
open Go Go.Proofs
attribute [local irreducible] Pur yx yz Ex X Fn Imp LeV LeB FnO It yC
attribute [local irreducible] gI
end Go.Rse
