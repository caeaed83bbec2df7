/-
  Plain: durations of the notes and rests of a run with pairs.
-/
import Derived.Test.YtkpbljifckjeoaaGreatDoorQJColor3
import Derived.Test.YtkpbljifckjeoaaGreatDoorQLogC
import Derived.Test.YtkpbljifckjeoaaGreatDoorQDot9
set_option linter.unusedSimpArgs false
set_option linter.unusedVariables false
namespace Go.Rse
open Go Go.Proofs
def zbn (p mi : List Int) : Nat -> List (Int × Tm)
 | 0 => []
 | k + 1 => if mi[k]? = some 2 then mput (p.getD k 0 + 1) ⟨1, 2⟩ (mput (p.getD k 0) ⟨3, 2⟩ (zbn p mi k)) else zbn p mi k
theorem zfC {α : Type} {l : List α} {k : Nat} {x d : α} (h : l[k]? = some x) : l.getD k d = x := by
 rw [List.getD_eq_getElem?_getD, h]; rfl
theorem zli {p mi : List Int} {k : Nat} {x y : Int} (hx : p[k]? = some x) (hy : mi[k]? = some y) (h : y = 2) : mput (x + 1) ⟨1, 2⟩ (mput x ⟨3, 2⟩ (zbn p mi k)) = zbn p mi (k + 1) := by
 conv => rhs; unfold zbn
 rw [if_pos (by rw [hy, h]), zfC hx]
theorem zlj {p mi : List Int} {k : Nat} {y : Int} (hy : mi[k]? = some y) (h : y = 1) : zbn p mi k = zbn p mi (k + 1) := by
 conv => rhs; unfold zbn
 rw [if_neg (by rw [hy, h]; simp)]
def bsT (m : Mn) (s : Sg) : Tm := if clr s = true then durT m s.Value else zd m s.Value
theorem zra {m : Mn} {s : Sg} (h : clr s = true) : durT m s.Value = bsT m s := by unfold bsT; rw [if_pos h]
theorem zrb {m : Mn} {s : Sg} (h : clr s = false) : zd m s.Value = bsT m s := by unfold bsT; rw [if_neg (by rw [h]; decide)]
def dvK (m : Mn) (l : List Sg) (M : List (Int × Tm)) : Nat -> List Tm
 | 0 => []
 | k + 1 => match l[k]? with
  | some s => if s.Kind = 3 then dvK m l M k else dvK m l M k ++ [(mget (k : Int) M).getD (bsT m s)]
  | none => dvK m l M k
theorem zhK {m : Mn} {l : List Sg} {M : List (Int × Tm)} {k : Nat} {s : Sg} (hs : l[k]? = some s) (h : s.Kind = 3) : dvK m l M k = dvK m l M (k + 1) := by
 conv => rhs; unfold dvK
 rw [hs]; simp only [if_pos h]
theorem zhL {m : Mn} {l : List Sg} {M : List (Int × Tm)} {k : Nat} {s : Sg} (hs : l[k]? = some s) (h : ¬ s.Kind = 3) : dvK m l M k ++ [(mget (k : Int) M).getD (bsT m s)] = dvK m l M (k + 1) := by
 conv => rhs; unfold dvK
 rw [hs]; simp only [if_neg h]
theorem zj2 (m : Mn) (l : List Sg) (M : List (Int × Tm)) : ∀ k, (dvK m l M k).length <= k
 | 0 => Nat.le_refl _
 | k + 1 => by
  have := zj2 m l M k;unfold dvK;split
  ·split
   ·omega
   ·simp; omega
  ·omega
theorem zpM {M : List (Int × Tm)} {i : Int} {b z : Tm} (h : (mget i M).isSome = true) : (mget i M).getD z = (mget i M).getD b := by
 cases hm : mget i M with
 | none => rw [hm] at h; simp at h
 | some x => rfl
theorem zlO {M : List (Int × Tm)} {i : Int} {b : Tm} (h : (mget i M).isSome = false) : b = (mget i M).getD b := by
 cases hm : mget i M with
 | none => rfl
 | some x => rw [hm] at h; simp at h
def mnOk (mi : List Int) : Bool := mi.all fun x => decide (x = 1) || decide (x = 2)
def duE (m : Mn) (l : List Sg) (mi : List Int) : Int := if ckD m l = 0 then (if mi.length = (prL m l).length /\ mnOk mi = true then 0 else 2) else ckD m l
def duM (m : Mn) (l : List Sg) (mi : List Int) : List (Int × Tm) := zbn (prL m l) mi (prL m l).length
def duV (m : Mn) (l : List Sg) (mi : List Int) : List Tm := if duE m l mi = 0 then dvK m l (duM m l mi) l.length else []
theorem zlP {mi : List Int} {k : Nat} {y : Int} (hy : mi[k]? = some y) (h1 : ¬ y = 1) (h2 : ¬ y = 2) : mnOk mi = false := by
 cases h : mnOk mi with
 | false => rfl
 | true =>
  unfold mnOk at h;have := List.all_eq_true.1 h y (List.mem_of_getElem? hy);simp [h1, h2] at this
theorem zlQ {mi : List Int} (h : ∀ (j : Nat) y, j < mi.length -> mi[j]? = some y -> y = 1 \/ y = 2) : mnOk mi = true := by
 unfold mnOk;rw [List.all_eq_true];intro y hy;obtain ⟨j, hj⟩ := List.mem_iff_getElem?.1 hy;have := h j y (List.getElem?_eq_some_iff.1 hj).1 hj;simp [this]
def mnK (mi : List Int) (k : Nat) : Prop := ∀ (j : Nat) y, j < k -> mi[j]? = some y -> y = 1 \/ y = 2
theorem zrc (mi : List Int) : mnK mi 0 := fun j y h => by omega
theorem zo4 {mi : List Int} {k : Nat} {y : Int} (h : mnK mi k) (hy : mi[k]? = some y) (hv : y = 1 \/ y = 2) : mnK mi (k + 1) := fun j z hj hz => by
 rcases Nat.lt_or_ge j k with h1 | h1
 ·exact h j z h1 hz
 ·have : j = k := by omega
  subst this; rw [hy] at hz; injection hz with hz; subst hz; exact hv
theorem zpN {mi : List Int} (h : mnK mi mi.length) : mnOk mi = true := zlQ fun j y hj hy => h j y hj hy
theorem zrd {m : Mn} {l : List Sg} {mi : List Int} (h : ¬ ckD m l = 0) : ckD m l = duE m l mi := by unfold duE; rw [if_neg h]
theorem zre {m : Mn} {l : List Sg} {mi : List Int} (h : ckD m l = 0) (h2 : ¬ mi.length = (prL m l).length) : 2 = duE m l mi := by unfold duE; rw [if_pos h, if_neg (fun e => h2 e.1)]
theorem zrf {m : Mn} {l : List Sg} {mi : List Int} (h : ckD m l = 0) (h2 : mnOk mi = false) : 2 = duE m l mi := by unfold duE; rw [if_pos h, if_neg (fun e => by rw [h2] at e; exact absurd e.2 (by decide))]
theorem zrg {m : Mn} {l : List Sg} {mi : List Int} (h : ckD m l = 0) (h1 : mi.length = (prL m l).length) (h2 : mnOk mi = true) : 0 = duE m l mi := by unfold duE; rw [if_pos h, if_pos ⟨h1, h2⟩]
theorem zlR {m : Mn} {l : List Sg} {mi : List Int} {e : Int} (h : e = duE m l mi) (he : ¬ e = 0) : [] = duV m l mi := by unfold duV; rw [if_neg (by rw [← h]; exact he)]
theorem zrh {m : Mn} {l : List Sg} {mi : List Int} (h : 0 = duE m l mi) : dvK m l (duM m l mi) l.length = duV m l mi := by unfold duV; rw [if_pos h.symm]
theorem zfY {m : Mn} {l : List Sg} (h : ckD m l = 0) {k : Nat} {s : Sg} (hs : l[k]? = some s) (h3 : ¬ s.Kind = 3) : ckM m = 0 /\ 1 <= s.Value /\ s.Value <= 8 := by
 have hm : ckM m = 0 := by
  unfold ckD at h; split at h
  ·assumption
  ·exact absurd h (by assumption)
 have hf : zaa m l 0 l = 0 := by unfold ckD at h; rw [if_pos hm] at h; exact h
 have hk : k < l.length := (List.getElem?_eq_some_iff.1 hs).1;have hF := (zaE hf (k + 1) (by omega)).2 k s (by omega) hs;unfold sgF at hF;refine ⟨hm, ?_⟩;split at hF
 ·split at hF
  ·assumption
  ·omega
 ·first | omega | (rw [if_neg h3] at hF; omega) | (split at hF <;> first | omega | contradiction)
theorem zfZ {m : Mn} {l : List Sg} : ∀ (k : Nat) (x : Int), x ∈ zP m l k -> 0 <= x /\ x < (k : Int)
 | 0, x, h => by unfold zP at h; simp at h
 | k + 1, x, h => by
  unfold zP at h;split at h
  ·rcases List.mem_append.1 h with h | h
   ·have := zfZ k x h; omega
   ·simp at h; omega
  ·have := zfZ k x h; omega
theorem zpO {m : Mn} {l : List Sg} {k : Nat} {x : Int} (h : (prL m l)[k]? = some x) : 0 <= x /\ x < (l.length : Int) := by
 unfold prL at h;split at h
 ·unfold zak at h; exact zfZ _ x (List.mem_of_getElem? h)
 ·simp at h
end Go.Rse
namespace Go.Rse
open Go Go.Proofs
attribute [local irreducible] Pur yC yE Ex X Fn Imp LeV LeB FnO It yJ
theorem zjt : mpOk Tryz.prog 189 3 25 := ⟨by kernel_rfl, _, Tryz.underlying3⟩
theorem zhM : ∃ d, Tryz.prog.underlying 3 = some (.int d) /\ d = .i64 := ⟨_, Tryz.underlying3, rfl⟩
attribute [local irreducible] za6 zP zak zav ckD prL twos zbn dvK mget mput bsT duE duV zd durT clr
set_option maxHeartbeats 2000000 in
theorem zhN (m : Mn) (l : List Sg) (mi : List Int) (hl : l.length <= 1000) (hmi : mi.length <= 1000) : Fn Tryz.prog 94 [mnA m, sgsA l, ym mi] (.tup [tmsA (duV m l mi), iv (duE m l mi)]) := by
 have hpl := zhH m l;have hm0 : [] = zbn (prL m l) mi 0 := by unfold zbn; rfl
 refine Fn.go Tryz.func94 Tryz.ntmps94 (fun g w d => ?_);apply yb;refine yF ?_;iterate 2 refine ya ?_
 apply yi;iterate 2 refine ya ?_
 refine zaA [(39, 39)] (zcV m l hl) ?_;refine zu ?_;apply yd;apply yb;refine yg ?_;refine yl rfl ?_ ?_<;>intro hc1
 ·have hE := zrd (mi := mi) hc1;have hV := zlR hE hc1;apply yb;refine yo ?_;refine X.ret ?_;refine RetQ.imp (yn (ts := [(6, tmsA []), (7, iv (ckD m l))]) (hs := [])) ?_;refine yw ?_ ?_;all_goals (first | exact congrArg tmsA hV | exact congrArg (AV.int .i64) hE)
 apply yf;iterate 2 apply yd
 refine X.imp (Imp.freeze (k := 39) rfl) ?_;apply yc;refine zu ?_;refine yl rfl ?_ ?_<;>intro hc2
 ·have hE := zre (mi := mi) hc1 (by omega);have hV := zlR hE (by decide);apply yb;refine yg ?_;refine X.ret ?_;refine RetQ.imp (yn (ts := [(6, tmsA []), (7, iv 2)]) (hs := [])) ?_;refine yw ?_ ?_;all_goals (first | exact congrArg tmsA hV | exact congrArg (AV.int .i64) hE)
 apply yf;apply yb;refine Ex.stepA (ze2 (k := 32) (fun i : Int => iv i) tmA) rfl rfl ?_;refine ye ?_;apply yd;apply yb;refine yo ?_;apply X.block
 refine zl (ι := Nat) (fun (k : Nat) => [(1, sgsA l), (2, ym mi), (3, .ptr 3 0 0 0), (10, .mp 32), (33, ym (prL m l)), (34, iv (prL m l).length), (35, iv (k : Int))]) (fun (k : Nat) => [(3, .box (mnE m) 32), (32, .mpb (fun i : Int => iv i) tmA (zbn (prL m l) mi k))]) (fun (k : Nat) => k <= (prL m l).length /\ mnK mi k) (fun (k : Nat) => (prL m l).length - k) 0 (fun k hk => ?_) (hJ := by
  exact ⟨by omega, zrc mi⟩) (h0 := by
  exact yq)
 obtain ⟨hk1, hk2⟩ := hk;apply yb;refine ye ?_;apply yd;refine yl rfl ?_ ?_<;>intro hc3
 ·obtain ⟨x, hx⟩ : ∃ x, (prL m l)[k]? = some x := ⟨_, lgg (by omega)⟩;have hx2 : (prL m l)[(k : Int).toNat]? = some x := by simpa using hx
  have hxb := zpO hx;obtain ⟨y, hy⟩ : ∃ y, mi[k]? = some y := ⟨_, lgg (by omega)⟩;have hy2 : mi[(k : Int).toNat]? = some y := by simpa using hy
  apply yf;apply yd;apply X.block;apply yb;iterate 5 refine ya ?_
  apply yi;refine zaj ?_;apply X.block;apply yb;refine yg ?_;refine yl rfl ?_ ?_<;>intro hc4
  ·have hst := zlj (p := prL m l) hy hc4;apply yf;apply yc;refine yg ?_
   refine yM (k + 1) (hJ := by
    exact ⟨by omega, zo4 hk2 hy (by omega)⟩) (hI := yq)
  ·apply yb;refine yg ?_;refine yl rfl ?_ ?_<;>intro hc5
   ·have hst := zli hx hy hc5;apply yc;(iterate 7 refine ya ?_);refine z7 (zdo (venc := tmA) ⟨3, 2⟩ rfl rfl rfl rfl rfl zjt zhM (fun _ _ => rfl)) ?_;refine z7 (zdo (venc := tmA) ⟨1, 2⟩ rfl rfl rfl rfl rfl zjt zhM (fun _ _ => rfl)) ?_;apply Ex.nil;apply yc;refine yg ?_
    refine yM (k + 1) (hJ := by
     exact ⟨by omega, zo4 hk2 hy (by omega)⟩) (hI := yq)
   ·have hE := zrf hc1 (zlP hy hc4 hc5);have hV := zlR hE (by decide);apply yb;refine yg ?_;refine X.ret ?_;refine RetQ.imp (yn (ts := [(6, tmsA []), (7, iv 2)]) (hs := [])) ?_;refine yw ?_ ?_;all_goals (first | exact congrArg tmsA hV | exact congrArg (AV.int .i64) hE)
 ·have hkl : k = (prL m l).length := by omega
  subst hkl;have hok : mnOk mi = true := zpN (by rw [show mi.length = (prL m l).length by omega]; exact hk2);have hE := zrg hc1 (by omega) hok;have hV := zrh hE;have hd0 : [] = dvK m l (duM m l mi) 0 := by unfold dvK; rfl
  apply X.exit;apply yb;refine ye ?_;iterate 2 apply yd
  refine X.imp (ze tmE 25 2 13 13 rfl rfl) ?_;apply yc;refine yo ?_;apply X.block
  refine zl (ι := Nat) (fun (k : Nat) => [(3, .ptr 3 0 0 0), (10, .mp 32), (13, .own 13), (56, sgsA l), (57, iv l.length), (58, iv (k : Int))]) (fun (k : Nat) => [(3, .box (mnE m) 32), (32, .mpb (fun i : Int => iv i) tmA (duM m l mi)), (13, .row tmE (dvK m l (duM m l mi) k) 25 2)]) (fun (k : Nat) => k <= l.length) (fun (k : Nat) => l.length - k) 0 (fun k hk => ?_) (h0 := by
   exact yq)
  apply yb;refine ye ?_;apply yd;refine yl rfl ?_ ?_<;>intro hc6
  ·obtain ⟨s, hs⟩ : ∃ s, l[k]? = some s := ⟨_, lgg (by omega)⟩;have hs2 : l[(k : Int).toNat]? = some s := by simpa using hs
   have hlen := zj2 m l (duM m l mi) k;apply yf;apply yd;apply X.block;apply yb;(iterate 3 refine ya ?_);refine yD ?_;refine ya ?_;refine Ex.mo ?_;apply yi;(iterate 2 refine ya ?_);refine ya (hs := zm0 (venc := tmA) tmZ rfl rfl rfl zjt zhM (fun _ _ => rfl) (zm2 ze25)) ?_;(iterate 3 refine ya ?_);refine yD ?_;refine Ex.mo ?_;refine ye ?_;apply yd;apply X.block;apply yb;refine zaj ?_;refine yl rfl ?_ ?_<;>intro hc7
   ·have hrow := zhK (m := m) (M := duM m l mi) hs hc7;apply X.exit;apply yc;refine yg ?_;refine yM (k + 1) (hI := yq)
   have hval := zfY hc1 hs hc7;have hrow := zhL (m := m) (M := duM m l mi) hs hc7;apply yb;refine yg ?_;refine yl rfl ?_ ?_<;>intro hc8
   ·rw [← zpM (z := tmZ) hc8] at hrow;apply yf;apply yc;(iterate 2 refine ya ?_);refine yW tmE [⟨_, _⟩] ?_;refine Ex.mo ?_;refine ye ?_;apply yc;refine yg ?_;refine yM (k + 1) (hI := yq)
   ·apply yb;refine ya ?_;refine yj (zaB _) ?_;refine ye ?_;refine yl rfl ?_ ?_<;>intro hc9
    ·rw [← zlO hc8, ← zra hc9] at hrow;apply yc;(iterate 3 refine ya ?_);refine yj (ze8 m hval.1 s.Value hval.2.1 hval.2.2) ?_;refine Ex.mo ?_;apply Ex.nil;apply yc;(iterate 2 refine ya ?_);refine yW tmE [⟨_, _⟩] ?_;refine Ex.mo ?_;refine ye ?_;apply yc;refine yg ?_;refine yM (k + 1) (hI := yq)
    ·rw [← zlO hc8, ← zrb hc9] at hrow;apply yc;(iterate 3 refine ya ?_);refine yj (zbs hval.1 hval.2.1 hval.2.2) ?_;(iterate 3 refine ya ?_);refine Ex.mo ?_;apply Ex.nil;apply yc;(iterate 2 refine ya ?_);refine yW tmE [⟨_, _⟩] ?_;refine Ex.mo ?_;refine ye ?_;apply yc;refine yg ?_;refine yM (k + 1) (hI := yq)
  ·have hkl2 : k = l.length := by omega
   subst hkl2;apply X.exit;apply yb;refine yo ?_;refine X.ret ?_;refine RetQ.imp (Imp.freeze (k := 13) rfl) ?_;refine yw ?_ ?_;all_goals (first | exact congrArg tmsA hV | exact congrArg (AV.int .i64) hE)
end Go.Rse
namespace Go.Rse
open Go Go.Proofs
structure Ite where
 Sign : Int
 Value : Int
 Rest : Bool
 Color : Bool
 Fixed : Bool
 Cut : Int
 Dur : Tm
 Before : Tm
 After : Tm
 deriving DecidableEq
instance : Inhabited Ite := ⟨⟨0, 0, false, false, false, 0, ⟨0, 0⟩, ⟨0, 0⟩, ⟨0, 0⟩⟩⟩
def itE : Ite -> List AV := fun x => [.int .i64 x.Sign, .int .i64 x.Value, .bool x.Rest, .bool x.Color, .bool x.Fixed, .int .i64 x.Cut, .int .i64 x.Dur.N, .int .i64 x.Dur.D, .int .i64 x.Before.N, .int .i64 x.Before.D, .int .i64 x.After.N, .int .i64 x.After.D]
abbrev itA (x : Ite) : AV := .agg (itE x)
abbrev itsA (l : List Ite) : AV := .sl itE l
instance : EncK itE 12 := ⟨fun _ => rfl⟩
def ntN (l : List Sg) : Nat -> Nat
 | 0 => 0
 | k + 1 => match l[k]? with
  | some s => if s.Kind = 3 then ntN l k else ntN l k + 1
  | none => ntN l k
theorem zhO {l : List Sg} {k : Nat} {s : Sg} (hs : l[k]? = some s) (h : s.Kind = 3) : ntN l (k + 1) = ntN l k := by
 simp only [ntN, hs, if_pos h]
theorem zhP {l : List Sg} {k : Nat} {s : Sg} (hs : l[k]? = some s) (h : ¬ s.Kind = 3) : ntN l (k + 1) = ntN l k + 1 := by
 simp only [ntN, hs, if_neg h]
theorem ziF (l : List Sg) (k : Nat) : ntN l k <= ntN l (k + 1) /\ ntN l (k + 1) <= ntN l k + 1 := by
 cases hs : l[k]? with
 | none => simp [ntN, hs]
 | some s => by_cases h : s.Kind = 3 <;> simp [ntN, hs, h]
theorem ziG (l : List Sg) : ∀ (n k : Nat), k <= n -> ntN l k <= ntN l n
 | 0, k, h => by have : k = 0 := by omega
                 subst this; exact Nat.le_refl _
 | n + 1, k, h => by
  rcases Nat.lt_or_ge n k with h1 | h1
  ·have : k = n + 1 := by omega
   subst this; exact Nat.le_refl _
  ·have := ziG l n k h1;have := (ziF l n).1;omega
theorem zju (l : List Sg) : ∀ k, ntN l k <= k
 | 0 => Nat.le_refl _
 | k + 1 => by have := zju l k; have := (ziF l k).2; omega
theorem zjv (ch : List Int) (l : List Sg) : ∀ k, (mkK ch l k).1.length = ntN l k
 | 0 => rfl
 | k + 1 => by
  have h := zjv ch l k;cases hs : l[k]? with
  | none => simp only [mkK, ntN, hs]; exact h
  | some s =>
   by_cases hK : s.Kind = 3
   ·rw [zfA hs hK, zhO hs hK]; simpa using h
   ·rw [zeb hs hK, zhP hs hK]; simpa using h
theorem zlS (m : Mn) (l : List Sg) (M : List (Int × Tm)) : ∀ k, (dvK m l M k).length = ntN l k
 | 0 => rfl
 | k + 1 => by
  have h := zlS m l M k;cases hs : l[k]? with
  | none => simp only [dvK, ntN, hs]; exact h
  | some s =>
   by_cases hK : s.Kind = 3
   ·rw [← zhK hs hK, zhO hs hK]; exact h
   ·rw [← zhL hs hK, zhP hs hK]; simpa using h
theorem zj3 {m : Mn} {l : List Sg} {M : List (Int × Tm)} {k : Nat} {s : Sg} (hs : l[k]? = some s) (h : ¬ s.Kind = 3) : ∀ n, k < n -> (dvK m l M n)[ntN l k]? = some ((mget (k : Int) M).getD (bsT m s))
 | 0, hn => by omega
 | n + 1, hn => by
  rcases Nat.lt_or_ge k n with h1 | h1
  ·have ih := zj3 (m := m) (M := M) hs h n h1;have hlt : ntN l k < (dvK m l M n).length := (List.getElem?_eq_some_iff.1 ih).1;cases hz : l[n]? with
   | none => simp only [dvK, hz]; exact ih
   | some z =>
    by_cases hK : z.Kind = 3
    ·rw [← zhK hz hK]; exact ih
    ·rw [← zhL hz hK, List.getElem?_append_left hlt]; exact ih
  ·have : k = n := by omega
   subst this;rw [← zhL hs h, ← zlS m l M k, List.getElem?_append_right (Nat.le_refl _), Nat.sub_self]; rfl
def itOf (k : Nat) (s : Sg) (c : Int) (a : Bool) (d : Tm) : Ite :=
 ⟨k, s.Value, decide (s.Kind = 2), clr s, a || decide (s.Kind = 2) || clr s || decide (c = s.Value), c, if a = true then mulV d ⟨3, 2⟩ else d, ⟨0, 1⟩, ⟨0, 1⟩⟩
def itK (l : List Sg) (c : List Int) (a : List Bool) (d : List Tm) : Nat -> List Ite
 | 0 => []
 | k + 1 => match l[k]? with
  | some s => if s.Kind = 3 then itK l c a d k else itK l c a d k ++ [itOf k s (c.getD (ntN l k) 0) (a.getD (ntN l k) false) (d.getD (ntN l k) ⟨0, 0⟩)]
  | none => itK l c a d k
section
variable {l : List Sg} {c : List Int} {a : List Bool} {d : List Tm} {k : Nat} {s : Sg}
theorem zj4 (hs : l[k]? = some s) (h : s.Kind = 3) : itK l c a d k = itK l c a d (k + 1) := by
 conv => rhs; unfold itK
 rw [hs]; simp only [if_pos h]
theorem zpP {x : Int} {y : Bool} {z : Tm} (hs : l[k]? = some s) (h : ¬ s.Kind = 3) (hx : c[ntN l k]? = some x) (hy : a[ntN l k]? = some y) (hz : d[ntN l k]? = some z) : itK l c a d k ++ [itOf k s x y z] = itK l c a d (k + 1) := by
 conv => rhs; unfold itK
 rw [hs]; simp only [if_neg h];rw [zfC hx, zfC hy, zfC hz]
end
theorem zri (l : List Sg) (c : List Int) (a : List Bool) (d : List Tm) : [] = itK l c a d 0 := rfl
theorem zhQ (l : List Sg) (c : List Int) (a : List Bool) (d : List Tm) : ∀ k, (itK l c a d k).length = ntN l k
 | 0 => rfl
 | k + 1 => by
  have h := zhQ l c a d k;cases hs : l[k]? with
  | none => simp only [itK, ntN, hs]; exact h
  | some s =>
   by_cases hK : s.Kind = 3
   ·rw [← zj4 hs hK, zhO hs hK]; exact h
   ·simp only [itK, hs, if_neg hK, zhP hs hK]; simpa using h
def zo5 (m : Mn) (v : Int) : Bool := decide (mulE (zd m v) ⟨3, 2⟩ = 0) && decide (mulE (durT m v) ⟨3, 2⟩ = 0)
theorem zlk : zlD zo5 = true := by kernel_rfl
theorem zlT {m : Mn} {v : Int} (hm : ckM m = 0) (h1 : 1 <= v) (h8 : v <= 8) : mulE (zd m v) ⟨3, 2⟩ = 0 /\ mulE (durT m v) ⟨3, 2⟩ = 0 := by
 have h := zk8 zlk hm h1 h8;unfold zo5 at h;simpa using h
theorem zni {m : Mn} {s : Sg} (hm : ckM m = 0) (h1 : 1 <= s.Value) (h8 : s.Value <= 8) : mulE (bsT m s) ⟨3, 2⟩ = 0 := by
 unfold bsT; split
 ·exact (zlT hm h1 h8).2
 ·exact (zlT hm h1 h8).1
theorem zcr (p mi : List Int) (q : Int) : ∀ k x, mget q (zbn p mi k) = some x -> x = ⟨3, 2⟩ \/ x = ⟨1, 2⟩
 | 0, x, h => by simp [zbn, zlK] at h
 | k + 1, x, h => by
  unfold zbn at h;split at h
  ·rw [zeO, zeO] at h;split at h
   ·injection h with h; exact .inr h.symm
   ·split at h
    ·injection h with h; exact .inl h.symm
    ·exact zcr p mi q k x h
  ·exact zcr p mi q k x h
theorem zlU {m : Mn} {l : List Sg} {mi : List Int} {q : Int} {s : Sg} (hm : ckM m = 0) (h1 : 1 <= s.Value) (h8 : s.Value <= 8) : mulE ((mget q (duM m l mi)).getD (bsT m s)) ⟨3, 2⟩ = 0 := by
 cases h : mget q (duM m l mi) with
 | none => exact zni hm h1 h8
 | some x =>
  rcases zcr _ _ _ _ _ h with rfl | rfl
  ·show mulE ⟨3, 2⟩ ⟨3, 2⟩ = 0; decide +kernel
  ·show mulE ⟨1, 2⟩ ⟨3, 2⟩ = 0; decide +kernel
def itmE (m : Mn) (l : List Sg) (ch mi : List Int) : Int := if mkE m l ch = 0 then duE m l mi else mkE m l ch
def itmV (m : Mn) (l : List Sg) (ch mi : List Int) : List Ite := if itmE m l ch mi = 0 then itK l (mkC m l ch) (mkA m l ch) (duV m l mi) l.length else []
theorem zjw {m : Mn} {l : List Sg} {ch : List Int} (h : ¬ ckD m l = 0) : mkE m l ch = ckD m l := by unfold mkE; rw [if_neg h]
theorem zpQ {m : Mn} {l : List Sg} {ch : List Int} (h : mkE m l ch = 0) : ckD m l = 0 := by
 apply Classical.byContradiction; intro h2;rw [zjw h2] at h; exact h2 h
theorem zlV {m : Mn} {l : List Sg} {ch mi : List Int} (h : ¬ mkE m l ch = 0) : itmE m l ch mi = mkE m l ch := by unfold itmE; rw [if_neg h]
theorem zlW {m : Mn} {l : List Sg} {ch mi : List Int} (h : mkE m l ch = 0) : itmE m l ch mi = duE m l mi := by unfold itmE; rw [if_pos h]
theorem zjx {m : Mn} {l : List Sg} {ch mi : List Int} (h : ¬ itmE m l ch mi = 0) : itmV m l ch mi = [] := by unfold itmV; rw [if_neg h]
theorem zlX {m : Mn} {l : List Sg} {ch mi : List Int} (h : itmE m l ch mi = 0) : itmV m l ch mi = itK l (mkC m l ch) (mkA m l ch) (duV m l mi) l.length := by unfold itmV; rw [if_pos h]
theorem zrj {m : Mn} {l : List Sg} {ch mi : List Int} {k : Nat} {s : Sg} (h1 : mkE m l ch = 0) (h2 : duE m l mi = 0) (hs : l[k]? = some s) (h : ¬ s.Kind = 3) :
 ∃ x y z, (mkC m l ch)[ntN l k]? = some x /\ (mkA m l ch)[ntN l k]? = some y /\ (duV m l mi)[ntN l k]? = some z /\ mulE z ⟨3, 2⟩ = 0 /\ ntN l k < ntN l l.length /\ ckM m = 0 /\ 1 <= s.Value /\ s.Value <= 8 /\ (z = bsT m s \/ z = ⟨3, 2⟩ \/ z = ⟨1, 2⟩) := by
 have hk : k < l.length := (List.getElem?_eq_some_iff.1 hs).1
 have hlt : ntN l k < ntN l l.length := by
  have := ziG l l.length (k + 1) hk;rw [zhP hs h] at this; omega
 obtain ⟨hm, v1, v8⟩ := zfY (zpQ h1) hs h;have c1 : (mkC m l ch).length = ntN l l.length := by unfold mkC; rw [if_pos h1]; exact zjv ch l l.length
 have c2 : (mkA m l ch).length = ntN l l.length := by unfold mkA; rw [if_pos h1, ← (zhG ch l l.length).1]; exact zjv ch l l.length
 refine ⟨_, _, _, lgg (by omega), lgg (by omega), ?_, zlU (l := l) (mi := mi) (q := (k : Int)) (s := s) hm v1 v8, hlt, hm, v1, v8, ?_⟩
 ·unfold duV; rw [if_pos h2];exact zj3 hs h l.length hk
 ·cases hq : mget (k : Int) (duM m l mi) with
  | none => exact .inl rfl
  | some x => exact .inr (zcr _ _ _ _ _ hq)
section
variable {k : Nat} {s : Sg} {x : Int} {y : Bool} {z : Tm}
def itL (k : Nat) (s : Sg) (f : Bool) (x : Int) (z : Tm) : Ite := ⟨k, s.Value, decide (s.Kind = 2), decide (s.Kind = 1) && s.Color, f, x, z, ⟨0, 1⟩, ⟨0, 1⟩⟩
theorem zrk (hy : y = true) : itL k s true x (mulV z ⟨3, 2⟩) = itOf k s x y z := by subst hy; rfl
theorem zlY (hy : y = false) (h : s.Kind = 2 \/ clr s = true \/ x = s.Value) : itL k s true x z = itOf k s x y z := by
 subst hy
 have : (false || decide (s.Kind = 2) || clr s || decide (x = s.Value)) = true := by
  rcases h with h | h | h <;> simp [h]
 unfold itOf itL; rw [this]; rfl
theorem zrl (hy : y = false) (h1 : ¬ s.Kind = 2) (h2 : clr s = false) (h3 : ¬ x = s.Value) : itL k s false x z = itOf k s x y z := by
 subst hy;have : (false || decide (s.Kind = 2) || clr s || decide (x = s.Value)) = false := by simp [h1, h2, h3]
 unfold itOf itL; rw [this]; rfl
end
end Go.Rse
