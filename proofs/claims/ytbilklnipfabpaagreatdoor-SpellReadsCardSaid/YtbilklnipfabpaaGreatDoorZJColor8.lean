/-
  Walks: Of.
-/
import Derived.Test.YtbilklnipfabpaaGreatDoorZJColor3
import Derived.Test.YtbilklnipfabpaaGreatDoorZLogC
set_option linter.unusedSimpArgs false
set_option linter.unusedVariables false
namespace Go.Rse
open Go Go.Proofs
attribute [local irreducible] Pur yD yE Ex X Fn Imp LeV LeB FnO It yH
attribute [local irreducible] zaz zh zN za ckD
theorem zl1 {m : Mn} {l : List Sg} (h : colE m l = 0) : ckD m l = 0 /\ (prL m l).length <= 6 /\ colN m l = 2 ^ (prL m l).length := by
 unfold colE at h;split at h
 ·next h1 =>
  split at h
  ·omega
  ·next h2 => exact ⟨h1, by omega, by unfold colN; rw [if_pos h1, if_neg h2]⟩
 ·next h1 => exact absurd h h1
def bitv (K j : Nat) : Int := if j < K then 2 ^ (K - 1 - j) else 0
def dig (n : Int) (K j : Nat) : Int := if n / 2 ^ (K - 1 - j) % 2 = 0 then 1 else 2
def digP (n : Int) (K j : Nat) : List Int := (List.range j).map (dig n K)
theorem zlp (n : Int) (K j : Nat) : digP n K j ++ [dig n K j] = digP n K (j + 1) := by unfold digP; rw [List.range_succ, List.map_append]; rfl
theorem ziR (n : Int) (K j : Nat) : (digP n K j).length = j := by unfold digP; simp
theorem ziS : ∀ K : Fin 7, ∀ j : Fin 7, bitv K.val j.val / 2 = bitv K.val (j.val + 1) /\ (j.val < K.val -> 1 <= bitv K.val j.val /\ bitv K.val j.val <= 64) := by decide
theorem zqV : ∀ K : Fin 7, (2 : Int) ^ K.val / 2 = bitv K.val 0 := by decide
theorem zqW {K j : Nat} (hK : K <= 6) (hj : j <= K) : bitv K j / 2 = bitv K (j + 1) := (ziS ⟨K, by omega⟩ ⟨j, by omega⟩).1
theorem zqX {K j : Nat} (hK : K <= 6) (hj : j < K) : 1 <= bitv K j /\ bitv K j <= 64 := (ziS ⟨K, by omega⟩ ⟨j, by omega⟩).2 hj
theorem zqY {K j : Nat} (hj : ¬ j < K) : bitv K j = 0 := by unfold bitv; rw [if_neg hj]
theorem zqZ {K j : Nat} (hj : j < K) : bitv K j = 2 ^ (K - 1 - j) := by unfold bitv; rw [if_pos hj]
theorem zoh {n : Int} {K j : Nat} (h0 : 0 <= n) (h1 : n < 64) (hK : K <= 6) (hj : j < K) : dig n K j = if andI n (bitv K j) = 0 then 1 else 2 := by
 unfold dig; rw [zqZ hj];have h := zlH h0 h1 (k := K - 1 - j) (by omega);by_cases e : andI n (2 ^ (K - 1 - j)) = 0
 ·rw [if_pos e, if_pos (h.1 e)]
 ·rw [if_neg e, if_neg (fun x => e (h.2 x))]
def cfE (m : Mn) (l : List Sg) (n : Int) : Int := if colE m l = 0 then (if n < 0 \/ colN m l <= n then 2 else 0) else colE m l
def cfV (m : Mn) (l : List Sg) (n : Int) : List Int := if colE m l = 0 then (if n < 0 \/ colN m l <= n then [] else digP n (prL m l).length (prL m l).length) else []
theorem zl2 {m : Mn} {l : List Sg} {n : Int} (h : ¬ colE m l = 0) : colE m l = cfE m l n := by unfold cfE; rw [if_neg h]
theorem zl3 {m : Mn} {l : List Sg} {n : Int} (h : ¬ colE m l = 0) : [] = cfV m l n := by unfold cfV; rw [if_neg h]
theorem zl4 {m : Mn} {l : List Sg} {n : Int} (h : colE m l = 0) (h2 : n < 0 \/ colN m l <= n) : 2 = cfE m l n := by unfold cfE; rw [if_pos h, if_pos h2]
theorem zl5 {m : Mn} {l : List Sg} {n : Int} (h : colE m l = 0) (h2 : n < 0 \/ colN m l <= n) : [] = cfV m l n := by unfold cfV; rw [if_pos h, if_pos h2]
theorem zl6 {m : Mn} {l : List Sg} {n : Int} (h : colE m l = 0) (h2 : ¬ (n < 0 \/ colN m l <= n)) : 0 = cfE m l n := by unfold cfE; rw [if_pos h, if_neg h2]
theorem zl7 {m : Mn} {l : List Sg} {n : Int} (h : colE m l = 0) (h2 : ¬ (n < 0 \/ colN m l <= n)) : digP n (prL m l).length (prL m l).length = cfV m l n := by unfold cfV; rw [if_pos h, if_neg h2]
attribute [local irreducible] prL colN colE bitv dig digP andI
theorem zjF (m : Mn) (l : List Sg) (n : Int) (hl : l.length <= 1000) : Fn Tryz.prog 111 [mnA m, sgsA l, iv n] (.tup [yh (cfV m l n), iv (cfE m l n)]) := by
 refine Fn.go Tryz.func111 Tryz.ntmps111 (fun g w d => ?_);apply yb;refine yG ?_;iterate 2 refine ya ?_
 apply yk;iterate 2 refine ya ?_
 refine yq (zdA m l hl) ?_;refine zv ?_;apply ye;apply yb;refine yg ?_;refine ym rfl ?_ ?_<;>intro hc1
 ·apply yb;refine yr ?_;refine X.ret ?_;refine yo (yi (ts := [(6, yh []), (7, iv (colE m l))]) (hs := [])) ?_;refine yy ?_ ?_;all_goals (first | exact congrArg yh (zl3 hc1) | exact congrArg (AV.int .i64) (zl2 hc1) | exact congrArg yh (zl5 hc1 (by omega)) | exact congrArg (AV.int .i64) (zl4 hc1 (by omega)) | exact congrArg yh (zl7 hc1 (by omega)) | exact congrArg (AV.int .i64) (zl6 hc1 (by omega)))
 apply yf;apply ye;apply yb;iterate 2 refine ya ?_
 refine ExF.at 2 ?_;refine yF ?_;iterate 3 refine ExF.gi ?_
 refine yC ?_;refine yd ?_;refine ym rfl ?_ ?_<;>intro hc2
 ·apply yb;refine yg ?_;refine X.ret ?_;refine yo (yi (ts := [(6, yh []), (7, iv 2)]) (hs := [])) ?_;refine yy ?_ ?_;all_goals (first | exact congrArg yh (zl3 hc1) | exact congrArg (AV.int .i64) (zl2 hc1) | exact congrArg yh (zl5 hc1 (by omega)) | exact congrArg (AV.int .i64) (zl4 hc1 (by omega)) | exact congrArg yh (zl7 hc1 (by omega)) | exact congrArg (AV.int .i64) (zl6 hc1 (by omega)))
 have hz := zl1 hc1;have hpb := zb2 hz.2.1;have hb0 := zqV ⟨(prL m l).length, by omega⟩;have he0 : [] = digP n (prL m l).length 0 := by unfold digP; rfl
 have hk6 := hz.2.1;have hcn := hz.2.2;rw [← hcn] at hb0 hpb;apply yf;apply yb;refine yd ?_;iterate 2 apply ye
 refine zm (zg intE 3 1 10 10 rfl rfl) ?_;apply yc;refine ya ?_;refine ya (hs := zj7 rfl rfl) ?_;refine yd ?_;apply X.block;refine zw (ι := Nat) (fun (k : Nat) => [(2, iv n), (10, .own 10), (11, iv (bitv (prL m l).length k))]) (fun (k : Nat) => [(10, .row intE (digP n (prL m l).length k) 3 1)]) (fun (k : Nat) => k <= (prL m l).length) (fun (k : Nat) => (prL m l).length - k) 0 (fun k hk => ?_);apply ye;apply yb;refine yg ?_;refine ym rfl ?_ ?_<;>intro hc3
 ·have hkl : k < (prL m l).length := by
   apply Classical.byContradiction; intro hn;rw [zqY hn] at hc3; omega
  have hlen := ziR n (prL m l).length k;have hbs := zqW (K := (prL m l).length) (j := k) hk6 (by omega);have hda := zoh (n := n) (by omega) (by omega) hk6 hkl;have hst := zlp n (prL m l).length k;apply yf;apply ye;apply X.block;apply yb;iterate 2 refine ya ?_
  refine ya (hs := zrL rfl rfl) ?_;refine yd ?_;refine ym rfl ?_ ?_<;>intro hc4
  ·rw [if_pos hc4] at hda; rw [hda] at hst;apply yc;refine ya ?_;refine yV intE [_] ?_;refine yj ?_;refine yd ?_;apply yc;refine ya ?_;refine ya (hs := zj7 rfl rfl) ?_;refine yd ?_;refine yY (k + 1)
  ·rw [if_neg hc4] at hda; rw [hda] at hst;apply yc;refine ya ?_;refine yV intE [_] ?_;refine yj ?_;refine yd ?_;apply yc;refine ya ?_;refine ya (hs := zj7 rfl rfl) ?_;refine yd ?_;refine yY (k + 1)
 ·have hkl : k = (prL m l).length := by
   apply Classical.byContradiction; intro hn;have hbb := zqX (K := (prL m l).length) (j := k) hk6 (by omega);omega
  subst hkl;apply X.exit;apply yb;refine yr ?_;refine X.ret ?_;refine yo (Imp.freeze (k := 10) rfl) ?_;refine yy ?_ ?_;all_goals (first | exact congrArg yh (zl3 hc1) | exact congrArg (AV.int .i64) (zl2 hc1) | exact congrArg yh (zl5 hc1 (by omega)) | exact congrArg (AV.int .i64) (zl4 hc1 (by omega)) | exact congrArg yh (zl7 hc1 (by omega)) | exact congrArg (AV.int .i64) (zl6 hc1 (by omega)))
end Go.Rse
namespace Go.Rse
open Go Go.Proofs
section
variable {α : Type}
theorem zdj {q : Int} : ∀ (l : List (Int × α)) (i : Nat), mix q l i = (mix q l 0).map (fun p => (p.1 + i, p.2))
 | [], i => rfl
 | p :: l, i => by
  unfold mix;by_cases h : p.1 = q
  ·simp [h]
  ·rw [if_neg h, if_neg h, zdj l (i + 1), zdj l 1, Option.map_map];congr 1; funext x; simp; omega
theorem ziT (q : Int) : mget q ([] : List (Int × α)) = none := rfl
theorem zb3 (q : Int) (p : Int × α) (l : List (Int × α)) : mget q (p :: l) = if p.1 = q then some p.2 else mget q l := by
 have e : mix q (p :: l) 0 = if p.1 = q then some (0, p.2) else mix q l 1 := rfl
 unfold mget;rw [e];by_cases h : p.1 = q
 ·simp [h]
 ·rw [if_neg h, if_neg h, zdj l 1, Option.map_map]; rfl
theorem zl8 (q : Int) (x : α) : mput q x [] = [(q, x)] := rfl
theorem zlq (q : Int) (x : α) (p : Int × α) (l : List (Int × α)) : mput q x (p :: l) = if p.1 = q then (q, x) :: l else p :: mput q x l := by
 unfold mput;by_cases h : p.1 = q
 ·simp [mix, h]
 ·have e : mix q (p :: l) 0 = (mix q l 0).map (fun z => (z.1 + 1, z.2)) := by
   rw [show mix q (p :: l) 0 = mix q l 1 by simp [mix, h], zdj l 1]
  rw [e, if_neg h];cases mix q l 0 with
  | none => rfl
  | some z => rfl
theorem zU (q q' : Int) (x : α) : ∀ l : List (Int × α), mget q (mput q' x l) = if q' = q then some x else mget q l
 | [] => by rw [zl8, zb3]
 | p :: l => by
  rw [zlq];by_cases h : p.1 = q'
  ·rw [if_pos h, zb3, zb3];by_cases h2 : q' = q
   ·simp [h2]
   ·rw [if_neg h2, if_neg h2, if_neg (by rw [h]; exact h2)]
  ·rw [if_neg h, zb3, zb3, zU q q' x l];by_cases h2 : p.1 = q
   ·rw [if_pos h2, if_pos h2, if_neg (by omega)]
   ·rw [if_neg h2, if_neg h2]
end
end Go.Rse
namespace Go.Rse
open Go Go.Proofs
def zab (p mi : List Int) : Nat -> List (Int × Tm)
 | 0 => []
 | k + 1 => if mi[k]? = some 2 then mput (p.getD k 0 + 1) ⟨1, 2⟩ (mput (p.getD k 0) ⟨3, 2⟩ (zab p mi k)) else zab p mi k
theorem zZ {α : Type} {l : List α} {k : Nat} {x d : α} (h : l[k]? = some x) : l.getD k d = x := by
 rw [List.getD_eq_getElem?_getD, h]; rfl
theorem zlr {p mi : List Int} {k : Nat} {x y : Int} (hx : p[k]? = some x) (hy : mi[k]? = some y) (h : y = 2) : mput (x + 1) ⟨1, 2⟩ (mput x ⟨3, 2⟩ (zab p mi k)) = zab p mi (k + 1) := by
 conv => rhs; unfold zab
 rw [if_pos (by rw [hy, h]), zZ hx]
theorem zls {p mi : List Int} {k : Nat} {y : Int} (hy : mi[k]? = some y) (h : y = 1) : zab p mi k = zab p mi (k + 1) := by
 conv => rhs; unfold zab
 rw [if_neg (by rw [hy, h]; simp)]
def bsT (m : Mn) (s : Sg) : Tm := if clr s = true then durT m s.Value else fullT m s.Value
theorem zsp {m : Mn} {s : Sg} (h : clr s = true) : durT m s.Value = bsT m s := by unfold bsT; rw [if_pos h]
theorem zsq {m : Mn} {s : Sg} (h : clr s = false) : fullT m s.Value = bsT m s := by unfold bsT; rw [if_neg (by rw [h]; decide)]
def dvK (m : Mn) (l : List Sg) (M : List (Int × Tm)) : Nat -> List Tm
 | 0 => []
 | k + 1 => match l[k]? with
  | some s => if s.Kind = 3 then dvK m l M k else dvK m l M k ++ [(mget (k : Int) M).getD (bsT m s)]
  | none => dvK m l M k
theorem zhS {m : Mn} {l : List Sg} {M : List (Int × Tm)} {k : Nat} {s : Sg} (hs : l[k]? = some s) (h : s.Kind = 3) : dvK m l M k = dvK m l M (k + 1) := by
 conv => rhs; unfold dvK
 rw [hs]; simp only [if_pos h]
theorem zhT {m : Mn} {l : List Sg} {M : List (Int × Tm)} {k : Nat} {s : Sg} (hs : l[k]? = some s) (h : ¬ s.Kind = 3) : dvK m l M k ++ [(mget (k : Int) M).getD (bsT m s)] = dvK m l M (k + 1) := by
 conv => rhs; unfold dvK
 rw [hs]; simp only [if_neg h]
theorem zkt (m : Mn) (l : List Sg) (M : List (Int × Tm)) : ∀ k, (dvK m l M k).length <= k
 | 0 => Nat.le_refl _
 | k + 1 => by
  have := zkt m l M k;unfold dvK;split
  ·split
   ·omega
   ·simp; omega
  ·omega
theorem zq0 {M : List (Int × Tm)} {i : Int} {b z : Tm} (h : (mget i M).isSome = true) : (mget i M).getD z = (mget i M).getD b := by
 cases hm : mget i M with
 | none => rw [hm] at h; simp at h
 | some x => rfl
theorem zl9 {M : List (Int × Tm)} {i : Int} {b : Tm} (h : (mget i M).isSome = false) : b = (mget i M).getD b := by
 cases hm : mget i M with
 | none => rfl
 | some x => rw [hm] at h; simp at h
def mnOk (mi : List Int) : Bool := mi.all fun x => decide (x = 1) || decide (x = 2)
def duE (m : Mn) (l : List Sg) (mi : List Int) : Int := if ckD m l = 0 then (if mi.length = (prL m l).length /\ mnOk mi = true then 0 else 2) else ckD m l
def duM (m : Mn) (l : List Sg) (mi : List Int) : List (Int × Tm) := zab (prL m l) mi (prL m l).length
def duV (m : Mn) (l : List Sg) (mi : List Int) : List Tm := if duE m l mi = 0 then dvK m l (duM m l mi) l.length else []
theorem zma {mi : List Int} {k : Nat} {y : Int} (hy : mi[k]? = some y) (h1 : ¬ y = 1) (h2 : ¬ y = 2) : mnOk mi = false := by
 cases h : mnOk mi with
 | false => rfl
 | true =>
  unfold mnOk at h;have := List.all_eq_true.1 h y (List.mem_of_getElem? hy);simp [h1, h2] at this
theorem zmb {mi : List Int} (h : ∀ (j : Nat) y, j < mi.length -> mi[j]? = some y -> y = 1 \/ y = 2) : mnOk mi = true := by
 unfold mnOk;rw [List.all_eq_true];intro y hy;obtain ⟨j, hj⟩ := List.mem_iff_getElem?.1 hy;have := h j y (List.getElem?_eq_some_iff.1 hj).1 hj;simp [this]
def mnK (mi : List Int) (k : Nat) : Prop := ∀ (j : Nat) y, j < k -> mi[j]? = some y -> y = 1 \/ y = 2
theorem zsr (mi : List Int) : mnK mi 0 := fun j y h => by omega
theorem zpX {mi : List Int} {k : Nat} {y : Int} (h : mnK mi k) (hy : mi[k]? = some y) (hv : y = 1 \/ y = 2) : mnK mi (k + 1) := fun j z hj hz => by
 rcases Nat.lt_or_ge j k with h1 | h1
 ·exact h j z h1 hz
 ·have : j = k := by omega
  subst this; rw [hy] at hz; injection hz with hz; subst hz; exact hv
theorem zq1 {mi : List Int} (h : mnK mi mi.length) : mnOk mi = true := zmb fun j y hj hy => h j y hj hy
theorem zss {m : Mn} {l : List Sg} {mi : List Int} (h : ¬ ckD m l = 0) : ckD m l = duE m l mi := by unfold duE; rw [if_neg h]
theorem zst {m : Mn} {l : List Sg} {mi : List Int} (h : ckD m l = 0) (h2 : ¬ mi.length = (prL m l).length) : 2 = duE m l mi := by unfold duE; rw [if_pos h, if_neg (fun e => h2 e.1)]
theorem zsu {m : Mn} {l : List Sg} {mi : List Int} (h : ckD m l = 0) (h2 : mnOk mi = false) : 2 = duE m l mi := by unfold duE; rw [if_pos h, if_neg (fun e => by rw [h2] at e; exact absurd e.2 (by decide))]
theorem zsv {m : Mn} {l : List Sg} {mi : List Int} (h : ckD m l = 0) (h1 : mi.length = (prL m l).length) (h2 : mnOk mi = true) : 0 = duE m l mi := by unfold duE; rw [if_pos h, if_pos ⟨h1, h2⟩]
theorem zmc {m : Mn} {l : List Sg} {mi : List Int} {e : Int} (h : e = duE m l mi) (he : ¬ e = 0) : [] = duV m l mi := by unfold duV; rw [if_neg (by rw [← h]; exact he)]
theorem zsw {m : Mn} {l : List Sg} {mi : List Int} (h : 0 = duE m l mi) : dvK m l (duM m l mi) l.length = duV m l mi := by unfold duV; rw [if_pos h.symm]
theorem zO {m : Mn} {l : List Sg} (h : ckD m l = 0) {k : Nat} {s : Sg} (hs : l[k]? = some s) (h3 : ¬ s.Kind = 3) : ckM m = 0 /\ 1 <= s.Value /\ s.Value <= 8 := by
 have hm : ckM m = 0 := by
  unfold ckD at h; split at h
  ·assumption
  ·exact absurd h (by assumption)
 have hf : zL m l 0 l = 0 := by unfold ckD at h; rw [if_pos hm] at h; exact h
 have hk : k < l.length := (List.getElem?_eq_some_iff.1 hs).1;have hF := (zae hf (k + 1) (by omega)).2 k s (by omega) hs;unfold sgF at hF;refine ⟨hm, ?_⟩;split at hF
 ·split at hF
  ·assumption
  ·omega
 ·first | omega | (rw [if_neg h3] at hF; omega) | (split at hF <;> first | omega | contradiction)
theorem zfS {m : Mn} {l : List Sg} : ∀ (k : Nat) (x : Int), x ∈ zh m l k -> 0 <= x /\ x < (k : Int)
 | 0, x, h => by unfold zh at h; simp at h
 | k + 1, x, h => by
  unfold zh at h;split at h
  ·rcases List.mem_append.1 h with h | h
   ·have := zfS k x h; omega
   ·simp at h; omega
  ·have := zfS k x h; omega
theorem zq2 {m : Mn} {l : List Sg} {k : Nat} {x : Int} (h : (prL m l)[k]? = some x) : 0 <= x /\ x < (l.length : Int) := by
 unfold prL at h;split at h
 ·unfold zN at h; exact zfS _ x (List.mem_of_getElem? h)
 ·simp at h
end Go.Rse
namespace Go.Rse
open Go Go.Proofs
attribute [local irreducible] Pur yD yE Ex X Fn Imp LeV LeB FnO It yH
theorem zjG : mpOk Tryz.prog 203 3 46 := ⟨by kernel_rfl, _, Tryz.underlying3⟩
theorem zhU : ∃ d, Tryz.prog.underlying 3 = some (.int d) /\ d = .i64 := ⟨_, Tryz.underlying3, rfl⟩
attribute [local irreducible] zaz zh zN za ckD prL twos zab dvK mget mput bsT duE duV fullT durT clr
set_option maxHeartbeats 2000000 in
theorem zhV (m : Mn) (l : List Sg) (mi : List Int) (hl : l.length <= 1000) (hmi : mi.length <= 1000) : Fn Tryz.prog 90 [mnA m, sgsA l, yh mi] (.tup [tmsA (duV m l mi), iv (duE m l mi)]) := by
 have hpl := zks m l;have hm0 : [] = zab (prL m l) mi 0 := by unfold zab; rfl
 refine Fn.go Tryz.func90 Tryz.ntmps90 (fun g w d => ?_);apply yb;refine yG ?_;iterate 2 refine ya ?_
 apply yk;iterate 2 refine ya ?_
 refine z8 [(39, 39)] (zcN m l hl) ?_;refine zv ?_;apply ye;apply yb;refine yg ?_;refine ym rfl ?_ ?_<;>intro hc1
 ·have hE := zss (mi := mi) hc1;have hV := zmc hE hc1;apply yb;refine yr ?_;refine X.ret ?_;refine yo (yi (ts := [(6, tmsA []), (7, iv (ckD m l))]) (hs := [])) ?_;refine yy ?_ ?_;all_goals (first | exact congrArg tmsA hV | exact congrArg (AV.int .i64) hE)
 apply yf;iterate 2 apply ye
 refine zm (Imp.freeze (k := 39) rfl) ?_;apply yc;refine zv ?_;refine ym rfl ?_ ?_<;>intro hc2
 ·have hE := zst (mi := mi) hc1 (by omega);have hV := zmc hE (by decide);apply yb;refine yg ?_;refine X.ret ?_;refine yo (yi (ts := [(6, tmsA []), (7, iv 2)]) (hs := [])) ?_;refine yy ?_ ?_;all_goals (first | exact congrArg tmsA hV | exact congrArg (AV.int .i64) hE)
 apply yf;apply yb;refine Ex.stepA (zhK (k := 32) (fun i : Int => iv i) tmA) rfl rfl ?_;refine yd ?_;apply ye;apply yb;refine yr ?_;apply X.block
 refine zw (ι := Nat) (fun (k : Nat) => [(1, sgsA l), (2, yh mi), (3, .ptr 3 0 0 0), (10, .mp 32), (33, yh (prL m l)), (34, iv (prL m l).length), (35, iv (k : Int))]) (fun (k : Nat) => [(3, .box (mnE m) 24), (32, .mpb (fun i : Int => iv i) tmA (zab (prL m l) mi k))]) (fun (k : Nat) => k <= (prL m l).length /\ mnK mi k) (fun (k : Nat) => (prL m l).length - k) 0 (fun k hk => ?_) (hJ := by
  exact ⟨by omega, zsr mi⟩) (h0 := by
  exact yA)
 obtain ⟨hk1, hk2⟩ := hk;apply yb;refine yd ?_;apply ye;refine ym rfl ?_ ?_<;>intro hc3
 ·obtain ⟨x, hx⟩ : ∃ x, (prL m l)[k]? = some x := ⟨_, lgg (by omega)⟩;have hx2 : (prL m l)[(k : Int).toNat]? = some x := by simpa using hx
  have hxb := zq2 hx;obtain ⟨y, hy⟩ : ∃ y, mi[k]? = some y := ⟨_, lgg (by omega)⟩;have hy2 : mi[(k : Int).toNat]? = some y := by simpa using hy
  apply yf;apply ye;apply X.block;apply yb;iterate 5 refine ya ?_
  apply yk;refine zaj ?_;apply X.block;apply yb;refine yg ?_;refine ym rfl ?_ ?_<;>intro hc4
  ·have hst := zls (p := prL m l) hy hc4;apply yf;apply yc;refine yg ?_
   refine yY (k + 1) (hJ := by
    exact ⟨by omega, zpX hk2 hy (by omega)⟩) (hI := yA)
  ·apply yb;refine yg ?_;refine ym rfl ?_ ?_<;>intro hc5
   ·have hst := zlr hx hy hc5;apply yc;(iterate 7 refine ya ?_);refine zaP (zdg (venc := tmA) ⟨3, 2⟩ rfl rfl rfl rfl rfl zjG zhU (fun _ _ => rfl)) ?_;refine zaP (zdg (venc := tmA) ⟨1, 2⟩ rfl rfl rfl rfl rfl zjG zhU (fun _ _ => rfl)) ?_;apply Ex.nil;apply yc;refine yg ?_
    refine yY (k + 1) (hJ := by
     exact ⟨by omega, zpX hk2 hy (by omega)⟩) (hI := yA)
   ·have hE := zsu hc1 (zma hy hc4 hc5);have hV := zmc hE (by decide);apply yb;refine yg ?_;refine X.ret ?_;refine yo (yi (ts := [(6, tmsA []), (7, iv 2)]) (hs := [])) ?_;refine yy ?_ ?_;all_goals (first | exact congrArg tmsA hV | exact congrArg (AV.int .i64) hE)
 ·have hkl : k = (prL m l).length := by omega
  subst hkl;have hok : mnOk mi = true := zq1 (by rw [show mi.length = (prL m l).length by omega]; exact hk2);have hE := zsv hc1 (by omega) hok;have hV := zsw hE;have hd0 : [] = dvK m l (duM m l mi) 0 := by unfold dvK; rfl
  apply X.exit;apply yb;refine yd ?_;iterate 2 apply ye
  refine zm (zg tmE 46 2 13 13 rfl rfl) ?_;apply yc;refine yr ?_;apply X.block
  refine zw (ι := Nat) (fun (k : Nat) => [(3, .ptr 3 0 0 0), (10, .mp 32), (13, .own 13), (56, sgsA l), (57, iv l.length), (58, iv (k : Int))]) (fun (k : Nat) => [(3, .box (mnE m) 24), (32, .mpb (fun i : Int => iv i) tmA (duM m l mi)), (13, .row tmE (dvK m l (duM m l mi) k) 46 2)]) (fun (k : Nat) => k <= l.length) (fun (k : Nat) => l.length - k) 0 (fun k hk => ?_) (h0 := by
   exact yA)
  apply yb;refine yd ?_;apply ye;refine ym rfl ?_ ?_<;>intro hc6
  ·obtain ⟨s, hs⟩ : ∃ s, l[k]? = some s := ⟨_, lgg (by omega)⟩;have hs2 : l[(k : Int).toNat]? = some s := by simpa using hs
   have hlen := zkt m l (duM m l mi) k;apply yf;apply ye;apply X.block;apply yb;(iterate 3 refine ya ?_);refine yJ ?_;refine ya ?_;refine yj ?_;apply yk;(iterate 2 refine ya ?_);refine ya (hs := znI (venc := tmA) tmZ rfl rfl rfl zjG zhU (fun _ _ => rfl) (znK ze46)) ?_;(iterate 3 refine ya ?_);refine yJ ?_;refine yj ?_;refine yd ?_;apply ye;apply X.block;apply yb;refine zaj ?_;refine ym rfl ?_ ?_<;>intro hc7
   ·have hrow := zhS (m := m) (M := duM m l mi) hs hc7;apply X.exit;apply yc;refine yg ?_;refine yY (k + 1) (hI := yA)
   have hval := zO hc1 hs hc7;have hrow := zhT (m := m) (M := duM m l mi) hs hc7;apply yb;refine yg ?_;refine ym rfl ?_ ?_<;>intro hc8
   ·rw [← zq0 (z := tmZ) hc8] at hrow;apply yf;apply yc;(iterate 2 refine ya ?_);refine yV tmE [⟨_, _⟩] ?_;refine yj ?_;refine yd ?_;apply yc;refine yg ?_;refine yY (k + 1) (hI := yA)
   ·apply yb;refine ya ?_;refine yq (zao _) ?_;refine yd ?_;refine ym rfl ?_ ?_<;>intro hc9
    ·rw [← zl9 hc8, ← zsp hc9] at hrow;apply yc;(iterate 3 refine ya ?_);refine yq (ze1 m hval.1 s.Value hval.2.1 hval.2.2) ?_;refine yj ?_;apply Ex.nil;apply yc;(iterate 2 refine ya ?_);refine yV tmE [⟨_, _⟩] ?_;refine yj ?_;refine yd ?_;apply yc;refine yg ?_;refine yY (k + 1) (hI := yA)
    ·rw [← zl9 hc8, ← zsq hc9] at hrow;apply yc;(iterate 3 refine ya ?_);refine yq (zbg hval.1 hval.2.1 hval.2.2) ?_;(iterate 3 refine ya ?_);refine yj ?_;apply Ex.nil;apply yc;(iterate 2 refine ya ?_);refine yV tmE [⟨_, _⟩] ?_;refine yj ?_;refine yd ?_;apply yc;refine yg ?_;refine yY (k + 1) (hI := yA)
  ·have hkl2 : k = l.length := by omega
   subst hkl2;apply X.exit;apply yb;refine yr ?_;refine X.ret ?_;refine yo (Imp.freeze (k := 13) rfl) ?_;refine yy ?_ ?_;all_goals (first | exact congrArg tmsA hV | exact congrArg (AV.int .i64) hE)
end Go.Rse
