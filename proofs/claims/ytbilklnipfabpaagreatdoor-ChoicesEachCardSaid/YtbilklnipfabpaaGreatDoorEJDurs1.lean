/-
  Plain: durations of the notes and rests of a run with pairs.
-/
import Derived.Test.YtbilklnipfabpaaGreatDoorEJColor4
import Derived.Test.YtbilklnipfabpaaGreatDoorELogC
import Derived.Test.YtbilklnipfabpaaGreatDoorEDot9
import Derived.Test.YtbilklnipfabpaaGreatDoorEJFull1
import Derived.Test.YtbilklnipfabpaaGreatDoorEJMens2
import Derived.Test.YtbilklnipfabpaaGreatDoorEJTime
set_option linter.unusedSimpArgs false
set_option linter.unusedVariables false
namespace Go.Rse
open Go Go.Proofs
def zbl (p mi : List Int) : Nat -> List (Int × Tm)
 | 0 => []
 | k + 1 => if mi[k]? = some 2 then mput (p.getD k 0 + 1) ⟨1, 2⟩ (mput (p.getD k 0) ⟨3, 2⟩ (zbl p mi k)) else zbl p mi k
theorem zbT {α : Type} {l : List α} {k : Nat} {x d : α} (h : l[k]? = some x) : l.getD k d = x := by
 rw [List.getD_eq_getElem?_getD, h]; rfl
theorem zmk {p mi : List Int} {k : Nat} {x y : Int} (hx : p[k]? = some x) (hy : mi[k]? = some y) (h : y = 2) : mput (x + 1) ⟨1, 2⟩ (mput x ⟨3, 2⟩ (zbl p mi k)) = zbl p mi (k + 1) := by
 conv => rhs; unfold zbl
 rw [if_pos (by rw [hy, h]), zbT hx]
theorem zml {p mi : List Int} {k : Nat} {y : Int} (hy : mi[k]? = some y) (h : y = 1) : zbl p mi k = zbl p mi (k + 1) := by
 conv => rhs; unfold zbl
 rw [if_neg (by rw [hy, h]; simp)]
def bsT (m : Mn) (s : Sg) : Tm := if clr s = true then durT m s.Value else fullT m s.Value
theorem ztP {m : Mn} {s : Sg} (h : clr s = true) : durT m s.Value = bsT m s := by unfold bsT; rw [if_pos h]
theorem ztQ {m : Mn} {s : Sg} (h : clr s = false) : fullT m s.Value = bsT m s := by unfold bsT; rw [if_neg (by rw [h]; decide)]
def dvK (m : Mn) (l : List Sg) (M : List (Int × Tm)) : Nat -> List Tm
 | 0 => []
 | k + 1 => match l[k]? with
  | some s => if s.Kind = 3 then dvK m l M k else dvK m l M k ++ [(mget (k : Int) M).getD (bsT m s)]
  | none => dvK m l M k
theorem ziC {m : Mn} {l : List Sg} {M : List (Int × Tm)} {k : Nat} {s : Sg} (hs : l[k]? = some s) (h : s.Kind = 3) : dvK m l M k = dvK m l M (k + 1) := by
 conv => rhs; unfold dvK
 rw [hs]; simp only [if_pos h]
theorem ziD {m : Mn} {l : List Sg} {M : List (Int × Tm)} {k : Nat} {s : Sg} (hs : l[k]? = some s) (h : ¬ s.Kind = 3) : dvK m l M k ++ [(mget (k : Int) M).getD (bsT m s)] = dvK m l M (k + 1) := by
 conv => rhs; unfold dvK
 rw [hs]; simp only [if_neg h]
theorem zk0 (m : Mn) (l : List Sg) (M : List (Int × Tm)) : ∀ k, (dvK m l M k).length <= k
 | 0 => Nat.le_refl _
 | k + 1 => by
  have := zk0 m l M k;unfold dvK;split
  ·split
   ·omega
   ·simp; omega
  ·omega
theorem zr4 {M : List (Int × Tm)} {i : Int} {b z : Tm} (h : (mget i M).isSome = true) : (mget i M).getD z = (mget i M).getD b := by
 cases hm : mget i M with
 | none => rw [hm] at h; simp at h
 | some x => rfl
theorem zm5 {M : List (Int × Tm)} {i : Int} {b : Tm} (h : (mget i M).isSome = false) : b = (mget i M).getD b := by
 cases hm : mget i M with
 | none => rfl
 | some x => rw [hm] at h; simp at h
def mnOk (mi : List Int) : Bool := mi.all fun x => decide (x = 1) || decide (x = 2)
def duE (m : Mn) (l : List Sg) (mi : List Int) : Int := if ckD m l = 0 then (if mi.length = (prL m l).length /\ mnOk mi = true then 0 else 2) else ckD m l
def duM (m : Mn) (l : List Sg) (mi : List Int) : List (Int × Tm) := zbl (prL m l) mi (prL m l).length
def duV (m : Mn) (l : List Sg) (mi : List Int) : List Tm := if duE m l mi = 0 then dvK m l (duM m l mi) l.length else []
theorem zm6 {mi : List Int} {k : Nat} {y : Int} (hy : mi[k]? = some y) (h1 : ¬ y = 1) (h2 : ¬ y = 2) : mnOk mi = false := by
 cases h : mnOk mi with
 | false => rfl
 | true =>
  unfold mnOk at h;have := List.all_eq_true.1 h y (List.mem_of_getElem? hy);simp [h1, h2] at this
theorem zm7 {mi : List Int} (h : ∀ (j : Nat) y, j < mi.length -> mi[j]? = some y -> y = 1 \/ y = 2) : mnOk mi = true := by
 unfold mnOk;rw [List.all_eq_true];intro y hy;obtain ⟨j, hj⟩ := List.mem_iff_getElem?.1 hy;have := h j y (List.getElem?_eq_some_iff.1 hj).1 hj;simp [this]
def mnK (mi : List Int) (k : Nat) : Prop := ∀ (j : Nat) y, j < k -> mi[j]? = some y -> y = 1 \/ y = 2
theorem ztR (mi : List Int) : mnK mi 0 := fun j y h => by omega
theorem zqX {mi : List Int} {k : Nat} {y : Int} (h : mnK mi k) (hy : mi[k]? = some y) (hv : y = 1 \/ y = 2) : mnK mi (k + 1) := fun j z hj hz => by
 rcases Nat.lt_or_ge j k with h1 | h1
 ·exact h j z h1 hz
 ·have : j = k := by omega
  subst this; rw [hy] at hz; injection hz with hz; subst hz; exact hv
theorem zr5 {mi : List Int} (h : mnK mi mi.length) : mnOk mi = true := zm7 fun j y hj hy => h j y hj hy
theorem ztS {m : Mn} {l : List Sg} {mi : List Int} (h : ¬ ckD m l = 0) : ckD m l = duE m l mi := by unfold duE; rw [if_neg h]
theorem ztT {m : Mn} {l : List Sg} {mi : List Int} (h : ckD m l = 0) (h2 : ¬ mi.length = (prL m l).length) : 2 = duE m l mi := by unfold duE; rw [if_pos h, if_neg (fun e => h2 e.1)]
theorem ztU {m : Mn} {l : List Sg} {mi : List Int} (h : ckD m l = 0) (h2 : mnOk mi = false) : 2 = duE m l mi := by unfold duE; rw [if_pos h, if_neg (fun e => by rw [h2] at e; exact absurd e.2 (by decide))]
theorem ztV {m : Mn} {l : List Sg} {mi : List Int} (h : ckD m l = 0) (h1 : mi.length = (prL m l).length) (h2 : mnOk mi = true) : 0 = duE m l mi := by unfold duE; rw [if_pos h, if_pos ⟨h1, h2⟩]
theorem zm8 {m : Mn} {l : List Sg} {mi : List Int} {e : Int} (h : e = duE m l mi) (he : ¬ e = 0) : [] = duV m l mi := by unfold duV; rw [if_neg (by rw [← h]; exact he)]
theorem ztW {m : Mn} {l : List Sg} {mi : List Int} (h : 0 = duE m l mi) : dvK m l (duM m l mi) l.length = duV m l mi := by unfold duV; rw [if_pos h.symm]
theorem zbD {m : Mn} {l : List Sg} (h : ckD m l = 0) {k : Nat} {s : Sg} (hs : l[k]? = some s) (h3 : ¬ s.Kind = 3) : ckM m = 0 /\ 1 <= s.Value /\ s.Value <= 8 := by
 have hm : ckM m = 0 := by
  unfold ckD at h; split at h
  ·assumption
  ·exact absurd h (by assumption)
 have hf : zN m l 0 l = 0 := by unfold ckD at h; rw [if_pos hm] at h; exact h
 have hk : k < l.length := (List.getElem?_eq_some_iff.1 hs).1;have hF := (zaC hf (k + 1) (by omega)).2 k s (by omega) hs;unfold sgF at hF;refine ⟨hm, ?_⟩;split at hF
 ·split at hF
  ·assumption
  ·omega
 ·first | omega | (rw [if_neg h3] at hF; omega) | (split at hF <;> first | omega | contradiction)
theorem zgJ {m : Mn} {l : List Sg} : ∀ (k : Nat) (x : Int), x ∈ zD m l k -> 0 <= x /\ x < (k : Int)
 | 0, x, h => by unfold zD at h; simp at h
 | k + 1, x, h => by
  unfold zD at h;split at h
  ·rcases List.mem_append.1 h with h | h
   ·have := zgJ k x h; omega
   ·simp at h; omega
  ·have := zgJ k x h; omega
theorem zr6 {m : Mn} {l : List Sg} {k : Nat} {x : Int} (h : (prL m l)[k]? = some x) : 0 <= x /\ x < (l.length : Int) := by
 unfold prL at h;split at h
 ·unfold z7 at h; exact zgJ _ x (List.mem_of_getElem? h)
 ·simp at h
end Go.Rse
namespace Go.Rse
open Go Go.Proofs
attribute [local irreducible] Pur yD yE Ex X Fn Imp LeV LeB FnO It yJ
theorem zkn : mpOk Tryz.prog 203 3 46 := ⟨by kernel_rfl, _, Tryz.underlying3⟩
theorem ziE : ∃ d, Tryz.prog.underlying 3 = some (.int d) /\ d = .i64 := ⟨_, Tryz.underlying3, rfl⟩
attribute [local irreducible] zaZ zD z7 zaw ckD prL twos zbl dvK mget mput bsT duE duV fullT durT clr
set_option maxHeartbeats 2000000 in
theorem ziF (m : Mn) (l : List Sg) (mi : List Int) (hl : l.length <= 1000) (hmi : mi.length <= 1000) : Fn Tryz.prog 90 [mnA m, sgsA l, yd mi] (.tup [tmsA (duV m l mi), iv (duE m l mi)]) := by
 have hpl := zcv m l;have hm0 : [] = zbl (prL m l) mi 0 := by unfold zbl; rfl
 refine Fn.go Tryz.func90 Tryz.ntmps90 (fun g w d => ?_);apply yb;refine yH ?_;iterate 2 refine ya ?_
 apply yk;iterate 2 refine ya ?_
 refine zU [(39, 39)] (zbB m l hl) ?_;refine zb ?_;apply ye;apply yb;refine yh ?_;refine ym rfl ?_ ?_<;>intro hc1
 ·have hE := ztS (mi := mi) hc1;have hV := zm8 hE hc1;apply yb;refine yq ?_;refine X.ret ?_;refine RetQ.imp (yi (ts := [(6, tmsA []), (7, iv (ckD m l))]) (hs := [])) ?_;refine yx ?_ ?_;all_goals (first | exact congrArg tmsA hV | exact congrArg (AV.int .i64) hE)
 apply yg;iterate 2 apply ye
 refine X.imp (Imp.freeze (k := 39) rfl) ?_;apply yc;refine zb ?_;refine ym rfl ?_ ?_<;>intro hc2
 ·have hE := ztT (mi := mi) hc1 (by omega);have hV := zm8 hE (by decide);apply yb;refine yh ?_;refine X.ret ?_;refine RetQ.imp (yi (ts := [(6, tmsA []), (7, iv 2)]) (hs := [])) ?_;refine yx ?_ ?_;all_goals (first | exact congrArg tmsA hV | exact congrArg (AV.int .i64) hE)
 apply yg;apply yb;refine Ex.stepA (ziu (k := 32) (fun i : Int => iv i) tmA) rfl rfl ?_;refine yf ?_;apply ye;apply yb;refine yq ?_;apply X.block
 refine zh (ι := Nat) (fun (k : Nat) => [(1, sgsA l), (2, yd mi), (3, .ptr 3 0 0 0), (10, .mp 32), (33, yd (prL m l)), (34, iv (prL m l).length), (35, iv (k : Int))]) (fun (k : Nat) => [(3, .box (mnE m) 24), (32, .mpb (fun i : Int => iv i) tmA (zbl (prL m l) mi k))]) (fun (k : Nat) => k <= (prL m l).length /\ mnK mi k) (fun (k : Nat) => (prL m l).length - k) 0 (fun k hk => ?_) (hJ := by
  exact ⟨by omega, ztR mi⟩) (h0 := by
  exact yA)
 obtain ⟨hk1, hk2⟩ := hk;apply yb;refine yf ?_;apply ye;refine ym rfl ?_ ?_<;>intro hc3
 ·obtain ⟨x, hx⟩ : ∃ x, (prL m l)[k]? = some x := ⟨_, lgg (by omega)⟩;have hx2 : (prL m l)[(k : Int).toNat]? = some x := by simpa using hx
  have hxb := zr6 hx;obtain ⟨y, hy⟩ : ∃ y, mi[k]? = some y := ⟨_, lgg (by omega)⟩;have hy2 : mi[(k : Int).toNat]? = some y := by simpa using hy
  apply yg;apply ye;apply X.block;apply yb;iterate 5 refine ya ?_
  apply yk;refine zM ?_;apply X.block;apply yb;refine yh ?_;refine ym rfl ?_ ?_<;>intro hc4
  ·have hst := zml (p := prL m l) hy hc4;apply yg;apply yc;refine yh ?_
   refine yQ (k + 1) (hJ := by
    exact ⟨by omega, zqX hk2 hy (by omega)⟩) (hI := yA)
  ·apply yb;refine yh ?_;refine ym rfl ?_ ?_<;>intro hc5
   ·have hst := zmk hx hy hc5;apply yc;(iterate 7 refine ya ?_);refine zbh (zdx (venc := tmA) ⟨3, 2⟩ rfl rfl rfl rfl rfl zkn ziE (fun _ _ => rfl)) ?_;refine zbh (zdx (venc := tmA) ⟨1, 2⟩ rfl rfl rfl rfl rfl zkn ziE (fun _ _ => rfl)) ?_;apply Ex.nil;apply yc;refine yh ?_
    refine yQ (k + 1) (hJ := by
     exact ⟨by omega, zqX hk2 hy (by omega)⟩) (hI := yA)
   ·have hE := ztU hc1 (zm6 hy hc4 hc5);have hV := zm8 hE (by decide);apply yb;refine yh ?_;refine X.ret ?_;refine RetQ.imp (yi (ts := [(6, tmsA []), (7, iv 2)]) (hs := [])) ?_;refine yx ?_ ?_;all_goals (first | exact congrArg tmsA hV | exact congrArg (AV.int .i64) hE)
 ·have hkl : k = (prL m l).length := by omega
  subst hkl;have hok : mnOk mi = true := zr5 (by rw [show mi.length = (prL m l).length by omega]; exact hk2);have hE := ztV hc1 (by omega) hok;have hV := ztW hE;have hd0 : [] = dvK m l (duM m l mi) 0 := by unfold dvK; rfl
  apply X.exit;apply yb;refine yf ?_;iterate 2 apply ye
  refine X.imp (za tmE 46 2 13 13 rfl rfl) ?_;apply yc;refine yq ?_;apply X.block
  refine zh (ι := Nat) (fun (k : Nat) => [(3, .ptr 3 0 0 0), (10, .mp 32), (13, .own 13), (56, sgsA l), (57, iv l.length), (58, iv (k : Int))]) (fun (k : Nat) => [(3, .box (mnE m) 24), (32, .mpb (fun i : Int => iv i) tmA (duM m l mi)), (13, .row tmE (dvK m l (duM m l mi) k) 46 2)]) (fun (k : Nat) => k <= l.length) (fun (k : Nat) => l.length - k) 0 (fun k hk => ?_) (h0 := by
   exact yA)
  apply yb;refine yf ?_;apply ye;refine ym rfl ?_ ?_<;>intro hc6
  ·obtain ⟨s, hs⟩ : ∃ s, l[k]? = some s := ⟨_, lgg (by omega)⟩;have hs2 : l[(k : Int).toNat]? = some s := by simpa using hs
   have hlen := zk0 m l (duM m l mi) k;apply yg;apply ye;apply X.block;apply yb;(iterate 3 refine ya ?_);refine yG ?_;refine ya ?_;refine yj ?_;apply yk;(iterate 2 refine ya ?_);refine ya (hs := zoL (venc := tmA) tmZ rfl rfl rfl zkn ziE (fun _ _ => rfl) (zoN ze46)) ?_;(iterate 3 refine ya ?_);refine yG ?_;refine yj ?_;refine yf ?_;apply ye;apply X.block;apply yb;refine zM ?_;refine ym rfl ?_ ?_<;>intro hc7
   ·have hrow := ziC (m := m) (M := duM m l mi) hs hc7;apply X.exit;apply yc;refine yh ?_;refine yQ (k + 1) (hI := yA)
   have hval := zbD hc1 hs hc7;have hrow := ziD (m := m) (M := duM m l mi) hs hc7;apply yb;refine yh ?_;refine ym rfl ?_ ?_<;>intro hc8
   ·rw [← zr4 (z := tmZ) hc8] at hrow;apply yg;apply yc;(iterate 2 refine ya ?_);refine yS tmE [⟨_, _⟩] ?_;refine yj ?_;refine yf ?_;apply yc;refine yh ?_;refine yQ (k + 1) (hI := yA)
   ·apply yb;refine ya ?_;refine yp (zaB _) ?_;refine yf ?_;refine ym rfl ?_ ?_<;>intro hc9
    ·rw [← zm5 hc8, ← ztP hc9] at hrow;apply yc;(iterate 3 refine ya ?_);refine yp (zjr m hval.1 s.Value hval.2.1 hval.2.2) ?_;refine yj ?_;apply Ex.nil;apply yc;(iterate 2 refine ya ?_);refine yS tmE [⟨_, _⟩] ?_;refine yj ?_;refine yf ?_;apply yc;refine yh ?_;refine yQ (k + 1) (hI := yA)
    ·rw [← zm5 hc8, ← ztQ hc9] at hrow;apply yc;(iterate 3 refine ya ?_);refine yp (zcx hval.1 hval.2.1 hval.2.2) ?_;(iterate 3 refine ya ?_);refine yj ?_;apply Ex.nil;apply yc;(iterate 2 refine ya ?_);refine yS tmE [⟨_, _⟩] ?_;refine yj ?_;refine yf ?_;apply yc;refine yh ?_;refine yQ (k + 1) (hI := yA)
  ·have hkl2 : k = l.length := by omega
   subst hkl2;apply X.exit;apply yb;refine yq ?_;refine X.ret ?_;refine RetQ.imp (Imp.freeze (k := 13) rfl) ?_;refine yx ?_ ?_;all_goals (first | exact congrArg tmsA hV | exact congrArg (AV.int .i64) hE)
end Go.Rse
namespace Go.Rse
open Go Go.Proofs
structure Ite where
 Sign : Int
 Value : Int
 Rest : Bool
 Color : Bool
 Fixed : Bool
 Cut : Int
 Dur : Tm
 Before : Tm
 After : Tm
 deriving DecidableEq
instance : Inhabited Ite := ⟨⟨0, 0, false, false, false, 0, ⟨0, 0⟩, ⟨0, 0⟩, ⟨0, 0⟩⟩⟩
def itE : Ite -> List AV := fun x => [.int .i64 x.Sign, .int .i64 x.Value, .bool x.Rest, .bool x.Color, .bool x.Fixed, .int .i64 x.Cut, .int .i64 x.Dur.N, .int .i64 x.Dur.D, .int .i64 x.Before.N, .int .i64 x.Before.D, .int .i64 x.After.N, .int .i64 x.After.D]
abbrev itA (x : Ite) : AV := .agg (itE x)
abbrev itsA (l : List Ite) : AV := .sl itE l
instance : EncK itE 12 := ⟨fun _ => rfl⟩
def ntN (l : List Sg) : Nat -> Nat
 | 0 => 0
 | k + 1 => match l[k]? with
  | some s => if s.Kind = 3 then ntN l k else ntN l k + 1
  | none => ntN l k
theorem ziG {l : List Sg} {k : Nat} {s : Sg} (hs : l[k]? = some s) (h : s.Kind = 3) : ntN l (k + 1) = ntN l k := by
 simp only [ntN, hs, if_pos h]
theorem zfg {l : List Sg} {k : Nat} {s : Sg} (hs : l[k]? = some s) (h : ¬ s.Kind = 3) : ntN l (k + 1) = ntN l k + 1 := by
 simp only [ntN, hs, if_neg h]
theorem zjo (l : List Sg) (k : Nat) : ntN l k <= ntN l (k + 1) /\ ntN l (k + 1) <= ntN l k + 1 := by
 cases hs : l[k]? with
 | none => simp [ntN, hs]
 | some s => by_cases h : s.Kind = 3 <;> simp [ntN, hs, h]
theorem zgK (l : List Sg) : ∀ (n k : Nat), k <= n -> ntN l k <= ntN l n
 | 0, k, h => by have : k = 0 := by omega
                 subst this; exact Nat.le_refl _
 | n + 1, k, h => by
  rcases Nat.lt_or_ge n k with h1 | h1
  ·have : k = n + 1 := by omega
   subst this; exact Nat.le_refl _
  ·have := zgK l n k h1;have := (zjo l n).1;omega
theorem zko (l : List Sg) : ∀ k, ntN l k <= k
 | 0 => Nat.le_refl _
 | k + 1 => by have := zko l k; have := (zjo l k).2; omega
theorem ziH (ch : List Int) (l : List Sg) : ∀ k, (mkK ch l k).1.length = ntN l k
 | 0 => rfl
 | k + 1 => by
  have h := ziH ch l k;cases hs : l[k]? with
  | none => simp only [mkK, ntN, hs]; exact h
  | some s =>
   by_cases hK : s.Kind = 3
   ·rw [zek hs hK, ziG hs hK]; simpa using h
   ·rw [zcV hs hK, zfg hs hK]; simpa using h
theorem zm9 (m : Mn) (l : List Sg) (M : List (Int × Tm)) : ∀ k, (dvK m l M k).length = ntN l k
 | 0 => rfl
 | k + 1 => by
  have h := zm9 m l M k;cases hs : l[k]? with
  | none => simp only [dvK, ntN, hs]; exact h
  | some s =>
   by_cases hK : s.Kind = 3
   ·rw [← ziC hs hK, ziG hs hK]; exact h
   ·rw [← ziD hs hK, zfg hs hK]; simpa using h
theorem ziI {m : Mn} {l : List Sg} {M : List (Int × Tm)} {k : Nat} {s : Sg} (hs : l[k]? = some s) (h : ¬ s.Kind = 3) : ∀ n, k < n -> (dvK m l M n)[ntN l k]? = some ((mget (k : Int) M).getD (bsT m s))
 | 0, hn => by omega
 | n + 1, hn => by
  rcases Nat.lt_or_ge k n with h1 | h1
  ·have ih := ziI (m := m) (M := M) hs h n h1;have hlt : ntN l k < (dvK m l M n).length := (List.getElem?_eq_some_iff.1 ih).1;cases hz : l[n]? with
   | none => simp only [dvK, hz]; exact ih
   | some z =>
    by_cases hK : z.Kind = 3
    ·rw [← ziC hz hK]; exact ih
    ·rw [← ziD hz hK, List.getElem?_append_left hlt]; exact ih
  ·have : k = n := by omega
   subst this;rw [← ziD hs h, ← zm9 m l M k, List.getElem?_append_right (Nat.le_refl _), Nat.sub_self]; rfl
def itOf (k : Nat) (s : Sg) (c : Int) (a : Bool) (d : Tm) : Ite :=
 ⟨k, s.Value, decide (s.Kind = 2), clr s, a || decide (s.Kind = 2) || clr s || decide (c = s.Value), c, if a = true then mulV d ⟨3, 2⟩ else d, ⟨0, 1⟩, ⟨0, 1⟩⟩
def itK (l : List Sg) (c : List Int) (a : List Bool) (d : List Tm) : Nat -> List Ite
 | 0 => []
 | k + 1 => match l[k]? with
  | some s => if s.Kind = 3 then itK l c a d k else itK l c a d k ++ [itOf k s (c.getD (ntN l k) 0) (a.getD (ntN l k) false) (d.getD (ntN l k) ⟨0, 0⟩)]
  | none => itK l c a d k
section
variable {l : List Sg} {c : List Int} {a : List Bool} {d : List Tm} {k : Nat} {s : Sg}
theorem ziJ (hs : l[k]? = some s) (h : s.Kind = 3) : itK l c a d k = itK l c a d (k + 1) := by
 conv => rhs; unfold itK
 rw [hs]; simp only [if_pos h]
theorem zr7 {x : Int} {y : Bool} {z : Tm} (hs : l[k]? = some s) (h : ¬ s.Kind = 3) (hx : c[ntN l k]? = some x) (hy : a[ntN l k]? = some y) (hz : d[ntN l k]? = some z) : itK l c a d k ++ [itOf k s x y z] = itK l c a d (k + 1) := by
 conv => rhs; unfold itK
 rw [hs]; simp only [if_neg h];rw [zbT hx, zbT hy, zbT hz]
end
theorem ztX (l : List Sg) (c : List Int) (a : List Bool) (d : List Tm) : [] = itK l c a d 0 := rfl
theorem zgL (l : List Sg) (c : List Int) (a : List Bool) (d : List Tm) : ∀ k, (itK l c a d k).length = ntN l k
 | 0 => rfl
 | k + 1 => by
  have h := zgL l c a d k;cases hs : l[k]? with
  | none => simp only [itK, ntN, hs]; exact h
  | some s =>
   by_cases hK : s.Kind = 3
   ·rw [← ziJ hs hK, ziG hs hK]; exact h
   ·simp only [itK, hs, if_neg hK, zfg hs hK]; simpa using h
def zqY (m : Mn) (v : Int) : Bool := decide (mulE (fullT m v) ⟨3, 2⟩ = 0) && decide (mulE (durT m v) ⟨3, 2⟩ = 0)
theorem zmm : zfF zqY = true := by kernel_rfl
theorem zna {m : Mn} {v : Int} (hm : ckM m = 0) (h1 : 1 <= v) (h8 : v <= 8) : mulE (fullT m v) ⟨3, 2⟩ = 0 /\ mulE (durT m v) ⟨3, 2⟩ = 0 := by
 have h := zbu zmm hm h1 h8;unfold zqY at h;simpa using h
theorem zo6 {m : Mn} {s : Sg} (hm : ckM m = 0) (h1 : 1 <= s.Value) (h8 : s.Value <= 8) : mulE (bsT m s) ⟨3, 2⟩ = 0 := by
 unfold bsT; split
 ·exact (zna hm h1 h8).2
 ·exact (zna hm h1 h8).1
theorem za1 (p mi : List Int) (q : Int) : ∀ k x, mget q (zbl p mi k) = some x -> x = ⟨3, 2⟩ \/ x = ⟨1, 2⟩
 | 0, x, h => by simp [zbl, zm0] at h
 | k + 1, x, h => by
  unfold zbl at h;split at h
  ·rw [zdA, zdA] at h;split at h
   ·injection h with h; exact .inr h.symm
   ·split at h
    ·injection h with h; exact .inl h.symm
    ·exact za1 p mi q k x h
  ·exact za1 p mi q k x h
theorem znb {m : Mn} {l : List Sg} {mi : List Int} {q : Int} {s : Sg} (hm : ckM m = 0) (h1 : 1 <= s.Value) (h8 : s.Value <= 8) : mulE ((mget q (duM m l mi)).getD (bsT m s)) ⟨3, 2⟩ = 0 := by
 cases h : mget q (duM m l mi) with
 | none => exact zo6 hm h1 h8
 | some x =>
  rcases za1 _ _ _ _ _ h with rfl | rfl
  ·show mulE ⟨3, 2⟩ ⟨3, 2⟩ = 0; decide +kernel
  ·show mulE ⟨1, 2⟩ ⟨3, 2⟩ = 0; decide +kernel
def itmE (m : Mn) (l : List Sg) (ch mi : List Int) : Int := if mkE m l ch = 0 then duE m l mi else mkE m l ch
def itmV (m : Mn) (l : List Sg) (ch mi : List Int) : List Ite := if itmE m l ch mi = 0 then itK l (mkC m l ch) (mkA m l ch) (duV m l mi) l.length else []
theorem zkp {m : Mn} {l : List Sg} {ch : List Int} (h : ¬ ckD m l = 0) : mkE m l ch = ckD m l := by unfold mkE; rw [if_neg h]
theorem zgM {m : Mn} {l : List Sg} {ch : List Int} (h : mkE m l ch = 0) : ckD m l = 0 := by
 apply Classical.byContradiction; intro h2;rw [zkp h2] at h; exact h2 h
theorem znc {m : Mn} {l : List Sg} {ch mi : List Int} (h : ¬ mkE m l ch = 0) : itmE m l ch mi = mkE m l ch := by unfold itmE; rw [if_neg h]
theorem znd {m : Mn} {l : List Sg} {ch mi : List Int} (h : mkE m l ch = 0) : itmE m l ch mi = duE m l mi := by unfold itmE; rw [if_pos h]
theorem zkq {m : Mn} {l : List Sg} {ch mi : List Int} (h : ¬ itmE m l ch mi = 0) : itmV m l ch mi = [] := by unfold itmV; rw [if_neg h]
theorem zgN {m : Mn} {l : List Sg} {ch mi : List Int} (h : itmE m l ch mi = 0) : itmV m l ch mi = itK l (mkC m l ch) (mkA m l ch) (duV m l mi) l.length := by unfold itmV; rw [if_pos h]
theorem ztY {m : Mn} {l : List Sg} {ch mi : List Int} {k : Nat} {s : Sg} (h1 : mkE m l ch = 0) (h2 : duE m l mi = 0) (hs : l[k]? = some s) (h : ¬ s.Kind = 3) :
 ∃ x y z, (mkC m l ch)[ntN l k]? = some x /\ (mkA m l ch)[ntN l k]? = some y /\ (duV m l mi)[ntN l k]? = some z /\ mulE z ⟨3, 2⟩ = 0 /\ ntN l k < ntN l l.length /\ ckM m = 0 /\ 1 <= s.Value /\ s.Value <= 8 /\ (z = bsT m s \/ z = ⟨3, 2⟩ \/ z = ⟨1, 2⟩) := by
 have hk : k < l.length := (List.getElem?_eq_some_iff.1 hs).1
 have hlt : ntN l k < ntN l l.length := by
  have := zgK l l.length (k + 1) hk;rw [zfg hs h] at this; omega
 obtain ⟨hm, v1, v8⟩ := zbD (zgM h1) hs h;have c1 : (mkC m l ch).length = ntN l l.length := by unfold mkC; rw [if_pos h1]; exact ziH ch l l.length
 have c2 : (mkA m l ch).length = ntN l l.length := by unfold mkA; rw [if_pos h1, ← (zel ch l l.length).1]; exact ziH ch l l.length
 refine ⟨_, _, _, lgg (by omega), lgg (by omega), ?_, znb (l := l) (mi := mi) (q := (k : Int)) (s := s) hm v1 v8, hlt, hm, v1, v8, ?_⟩
 ·unfold duV; rw [if_pos h2];exact ziI hs h l.length hk
 ·cases hq : mget (k : Int) (duM m l mi) with
  | none => exact .inl rfl
  | some x => exact .inr (za1 _ _ _ _ _ hq)
section
variable {k : Nat} {s : Sg} {x : Int} {y : Bool} {z : Tm}
def itL (k : Nat) (s : Sg) (f : Bool) (x : Int) (z : Tm) : Ite := ⟨k, s.Value, decide (s.Kind = 2), decide (s.Kind = 1) && s.Color, f, x, z, ⟨0, 1⟩, ⟨0, 1⟩⟩
theorem ztZ (hy : y = true) : itL k s true x (mulV z ⟨3, 2⟩) = itOf k s x y z := by subst hy; rfl
theorem zne (hy : y = false) (h : s.Kind = 2 \/ clr s = true \/ x = s.Value) : itL k s true x z = itOf k s x y z := by
 subst hy
 have : (false || decide (s.Kind = 2) || clr s || decide (x = s.Value)) = true := by
  rcases h with h | h | h <;> simp [h]
 unfold itOf itL; rw [this]; rfl
theorem zt0 (hy : y = false) (h1 : ¬ s.Kind = 2) (h2 : clr s = false) (h3 : ¬ x = s.Value) : itL k s false x z = itOf k s x y z := by
 subst hy;have : (false || decide (s.Kind = 2) || clr s || decide (x = s.Value)) = false := by simp [h1, h2, h3]
 unfold itOf itL; rw [this]; rfl
end
end Go.Rse
namespace Go.Rse
open Go Go.Proofs
attribute [local irreducible] Pur yD yE Ex X Fn Imp LeV LeB FnO It yJ
def tfx (t : Tm) (l : List Tm) : Int := if l.findIdx (fun u => decide (t = u)) < l.length then (l.findIdx (fun u => decide (t = u)) : Int) else -1
theorem zo7 {t : Tm} {l : List Tm} {k : Nat} {v : Tm} (hv : l[k]? = some v) (hp : t = v) (hJ : ∀ i u, i < k -> l[i]? = some u -> ¬ t = u) : tfx t l = k := by
 have hk : k < l.length := (List.getElem?_eq_some_iff.1 hv).1;have hg : l[k] = v := (List.getElem?_eq_some_iff.1 hv).2;have : l.findIdx (fun u => decide (t = u)) = k := (List.findIdx_eq hk).2 ⟨by rw [hg]; simpa using hp, fun j hj => by simpa using hJ j _ hj (lgg (by omega))⟩;unfold tfx; rw [this, if_pos hk]
theorem znf {t : Tm} {l : List Tm} (hJ : ∀ i u, i < l.length -> l[i]? = some u -> ¬ t = u) : tfx t l = -1 := by
 have : l.findIdx (fun u => decide (t = u)) = l.length := List.findIdx_eq_length.2 fun x hx => by
  obtain ⟨i, hi⟩ := List.mem_iff_getElem?.1 hx;simpa using hJ i x (List.getElem?_eq_some_iff.1 hi).1 hi
 unfold tfx; rw [if_neg (by omega)]
theorem zo8 (t : Tm) (l : List Tm) : decide (0 <= tfx t l) = decide (t ∈ l) := by
 by_cases h : t ∈ l
 ·have : l.findIdx (fun u => decide (t = u)) < l.length := List.findIdx_lt_length_of_exists ⟨t, h, by simp⟩;simp only [tfx, if_pos this, h]; simp
 ·have h2 : l.findIdx (fun u => decide (t = u)) = l.length := List.findIdx_eq_length.2 fun u hu => decide_eq_false fun e => h (e ▸ hu)
  have : ¬ l.findIdx (fun u => decide (t = u)) < l.length := by omega
  simp only [tfx, if_neg this, h]; simp
theorem zbE {α : Type} {l : List α} {j : Nat} {x : α} (h : l[j]? = some x) : l.take j ++ [x] = l.take (j + 1) := by
 rw [List.take_add_one, h]; rfl
theorem zh0 (m : Mn) : (perfL m).length <= 4 := by
 unfold perfL;refine Nat.le_trans (List.length_filter_le _ _) ?_;simp
attribute [local irreducible] tfx perfL
theorem zaP (l : List Tm) (t : Tm) (hl : l.length <= 4000000000) : Fn Tryz.prog 85 [tmsA l, tmA t] (iv (tfx t l)) := by
 refine Fn.go Tryz.func85 Tryz.ntmps85 (fun g w d => ?_);apply yb;refine yH ?_;refine yf ?_;apply ye;apply yb;refine yq ?_;apply X.block
 refine zh (ι := Nat) (fun (k : Nat) => [(0, tmsA l), (3, .ptr 3 0 0 0), (7, iv l.length), (8, iv (k : Int))]) (fun (k : Nat) => [(3, .box (tmE t) 46)]) (fun (k : Nat) => k <= l.length /\ ∀ i u, i < k -> l[i]? = some u -> ¬ t = u) (fun (k : Nat) => l.length - k) 0 (fun k hk => ?_) (hJ := by
  exact ⟨by omega, fun i u h => absurd h (Nat.not_lt_zero i)⟩)
 obtain ⟨hk1, hk2⟩ := hk;apply yb;refine yf ?_;apply ye;refine ym rfl ?_ ?_<;>intro hc1
 ·obtain ⟨v, hv⟩ : ∃ v, l[k]? = some v := ⟨_, lgg (by omega)⟩;have hv2 : l[(k : Int).toNat]? = some v := by simpa using hv
  apply yg;apply ye;apply X.block;apply yb;refine yh ?_;apply ye;refine zu [11,12,13,14,15,16] [0,0,0,6,14,31] mo ?_;iterate 6 refine yl ?_
  refine y2 ?_;apply Ex.nil;refine ym rfl ?_ ?_<;>intro hc2
  ·apply yb;refine yh ?_;refine X.ret ?_;refine yo ?_;all_goals (congr 1; exact (zo7 hv hc2 hk2).symm)
  apply yg;apply yc;refine yh ?_
  refine yQ (k + 1) (hJ := by
   refine ⟨by omega, fun i u hi hu => ?_⟩;rcases Nat.lt_succ_iff_lt_or_eq.1 hi with h | h
   ·exact hk2 i u h hu
   ·subst h; rw [hv] at hu; injection hu with hu; subst hu; exact hc2)
 ·apply X.exit;apply yb;refine yf ?_;refine X.ret ?_;refine yo ?_;all_goals (congr 1; exact (znf (fun i u hi => hk2 i u (by omega))).symm)
theorem zB (l : List Tm) (t : Tm) (hl : l.length <= 4000000000) : Fn Tryz.prog 41 [tmsA l, tmA t] (.bool (decide (t ∈ l))) := by
 refine Fn.go Tryz.func41 Tryz.ntmps41 (fun g w d => ?_);apply yb;refine yH ?_;refine ya ?_;apply yk;iterate 2 refine ya ?_
 refine yp (zaP l t hl) ?_;refine yh ?_;refine X.ret ?_;refine yo ?_;all_goals (congr 1; exact zo8 t l)
theorem zG (l : List Ite) (hl : l.length <= 4000000) : FnO Tryz.prog 94 [itsA l] [] [] (.own 5) [(5, .row itE l 95 12)] := by
 refine FnO.intro (ts := [(0, itsA l)]) (rv := [.tmp 2]) (n := 8) (cs := []) (by kernel_rfl) Tryz.func94 rfl Tryz.ntmps94 rfl rfl (by simp) rfl rfl rfl rfl (fun g w d vs => ?_);apply yb;refine yf ?_;apply ye;apply yb;refine ya ?_;refine Ex.eqNil rfl sl89 rfl (fun b hb => ?_);apply Ex.nil;refine ym rfl ?_ ?_<;>intro hc1
 ·have hl0 := hb hc1;subst hl0;subst hc1;apply yb;refine yf ?_;refine X.ret ?_;refine zlV.imp (za itE 95 12 2 5 rfl rfl) ?_;refine zlV.mk (ts := [(2, .own 5)]) (.inr rfl) (yi) (.one (.tmp rfl (LeV.eq rfl)))
 apply yg;apply yb;refine yS itE [] ?_;refine ya ?_;refine yj ?_;refine yf ?_;refine X.ret ?_;refine zlV.mk (ts := [(2, .own 5)]) (.inr rfl) (yi) (.one (.tmp rfl (LeV.eq rfl)))
theorem zbF (m : Mn) : Fn Tryz.prog 136 [.nils, .fn 137 [.ept (fun _ : Unit => mnE m) () 0]] (yd (perfL m)) := by
 have hpl := zh0 m;refine Fn.go Tryz.func136 Tryz.ntmps136 (fun g w d => ?_);apply yb;refine zb6 ?_;refine yf ?_;iterate 2 apply ye
 refine X.imp (za8 intE 3 1 2 39 22 rfl rfl) ?_;apply yc;refine yf ?_;apply X.block;have ht0 : [] = (perfL m).take 0 := by simp
 have htl : (perfL m).take (zd0 m).length = perfL m := by unfold zd0; rw [List.length_map, List.take_length]
 refine X.range (sl := [2]) (fun j => ([.ptr 2 0 0 0], [(2, .box [.own 39] 22), (39, .row intE ((perfL m).take j) 3 1)])) (fun j => True) 900001 900002 rfl rfl (by decide) (fun j zs hj => by obtain ⟨i, _, rfl⟩ := zbv hj; rfl) (zcm m) trivial rfl rfl (by decide) (Nat.zero_le _) (by simp) (fun j zs hj => by obtain ⟨i, _, rfl⟩ := zbv hj; rfl) (fun _ => rfl) rfl rfl (fun l o us => yi) (trivial) (fun j zs hj hJ l ready busy rb vs g w hb hyB => ?_) (fun hJ => ?_)
 ·have hZ1 := zbv hj;obtain ⟨i, hi, rfl⟩ := hZ1;have hst := zbE hi;have hlt : ((perfL m).take j).length <= 1000 := by simp; omega
  apply yc;refine yf ?_;refine ⟨rfl, rfl, ?_⟩;apply X.block;apply yc;iterate 2 refine ya ?_
  refine yS intE [_] ?_;iterate 2 refine yj ?_
  apply Ex.nil;refine ⟨[.ptr 2 0 0 0], [(2, .box [.own 39] 22), (39, .row intE ((perfL m).take (j + 1)) 3 1)], yi, rfl, trivial⟩
 apply yb;refine yh ?_;refine X.ret ?_;refine RetQ.imp (Imp.freeze (k := 39) rfl) ?_;refine yo ?_;all_goals (first | exact congrArg yd htl | rfl)
theorem zcY (m : Mn) : Fn Tryz.prog 96 [.fn 137 [.ept (fun _ : Unit => mnE m) () 0]] (yd (perfL m)) := by
 refine Fn.go Tryz.func96 Tryz.ntmps96 (fun g w d => ?_);apply yb;refine ya ?_;apply yk;refine ya ?_;refine yp (zbF m) ?_;refine yf ?_;refine X.ret ?_;refine yo ?_;all_goals (first | rfl | (simp_all; done))
theorem za9 (m : Mn) : Fn Tryz.prog 46 [mnA m] (.tup [yd (if ckM m = 0 then perfL m else []), iv (ckM m)]) := by
 refine Fn.go Tryz.func46 Tryz.ntmps46 (fun g w d => ?_);apply yb;refine yH ?_;refine yh ?_;apply ye;apply yb;refine ya ?_;refine yp (zcE m) ?_;refine ya ?_;apply yk;refine yh ?_;refine ym rfl ?_ ?_<;>intro hc1
 ·apply yb;refine yq ?_;refine X.ret ?_;refine RetQ.imp (yi (ts := [(2, yd []), (3, iv (ckM m))]) (hs := [])) ?_;refine yx ?_ ?_;all_goals (first | (rw [if_neg hc1]; done) | rfl)
 apply yg;apply yb;refine ya ?_;refine yp (zda m) ?_;refine yp (zcY m) ?_;refine yh ?_;refine X.ret ?_;refine yx ?_ ?_;all_goals (first | (rw [if_pos hc1]; done) | exact congrArg (AV.int .i64) hc1.symm)
end Go.Rse
namespace Go.Rse
open Go Go.Proofs
attribute [local irreducible] Pur yD yE Ex X Fn Imp LeV LeB FnO It yJ
attribute [local irreducible] gI
end Go.Rse
