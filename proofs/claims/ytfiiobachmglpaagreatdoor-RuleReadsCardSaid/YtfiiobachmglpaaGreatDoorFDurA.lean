/-
  Plain: what the map of the pairs holds, and the reference's last write.
  Plain: durations of the notes and rests of a run with pairs.
  Walks: the durations of a run's notes and rests.
-/
import Derived.Test.YtfiiobachmglpaaGreatDoorFColB
import Derived.Test.YtfiiobachmglpaaGreatDoorFLogC
set_option linter.unusedSimpArgs false
set_option linter.unusedVariables false
namespace Go.Rse
open Go Go.Proofs
section
variable {α : Type}
theorem zeh {q : Int} : ∀ (l : List (Int × α)) (i : Nat), mix q l i = (mix q l 0).map (fun p => (p.1 + i, p.2))
 | [], i => rfl
 | p :: l, i => by
  unfold mix;by_cases h : p.1 = q
  ·simp [h]
  ·rw [if_neg h, if_neg h, zeh l (i + 1), zeh l 1, Option.map_map];congr 1; funext x; simp; omega
theorem zmx (q : Int) : mget q ([] : List (Int × α)) = none := rfl
theorem zcF (q : Int) (p : Int × α) (l : List (Int × α)) : mget q (p :: l) = if p.1 = q then some p.2 else mget q l := by
 have e : mix q (p :: l) 0 = if p.1 = q then some (0, p.2) else mix q l 1 := rfl
 unfold mget;rw [e];by_cases h : p.1 = q
 ·simp [h]
 ·rw [if_neg h, if_neg h, zeh l 1, Option.map_map]; rfl
theorem zmy (q : Int) (x : α) : mput q x [] = [(q, x)] := rfl
theorem zl9 (q : Int) (x : α) (p : Int × α) (l : List (Int × α)) : mput q x (p :: l) = if p.1 = q then (q, x) :: l else p :: mput q x l := by
 unfold mput;by_cases h : p.1 = q
 ·simp [mix, h]
 ·have e : mix q (p :: l) 0 = (mix q l 0).map (fun z => (z.1 + 1, z.2)) := by
   rw [show mix q (p :: l) 0 = mix q l 1 by simp [mix, h], zeh l 1]
  rw [e, if_neg h];cases mix q l 0 with
  | none => rfl
  | some z => rfl
theorem zbT (q q' : Int) (x : α) : ∀ l : List (Int × α), mget q (mput q' x l) = if q' = q then some x else mget q l
 | [] => by rw [zmy, zcF]
 | p :: l => by
  rw [zl9];by_cases h : p.1 = q'
  ·rw [if_pos h, zcF, zcF];by_cases h2 : q' = q
   ·simp [h2]
   ·rw [if_neg h2, if_neg h2, if_neg (by rw [h]; exact h2)]
  ·rw [if_neg h, zcF, zcF, zbT q q' x l];by_cases h2 : p.1 = q
   ·rw [if_pos h2, if_pos h2, if_neg (by omega)]
   ·rw [if_neg h2, if_neg h2]
end
end Go.Rse
namespace Go.Rse
open Go Go.Proofs
def za8 (p mi : List Int) : Nat -> List (Int × Tm)
 | 0 => []
 | k + 1 => if mi[k]? = some 2 then mput (p.getD k 0 + 1) ⟨1, 2⟩ (mput (p.getD k 0) ⟨3, 2⟩ (za8 p mi k)) else za8 p mi k
theorem zfg {α : Type} {l : List α} {k : Nat} {x d : α} (h : l[k]? = some x) : l.getD k d = x := by
 rw [List.getD_eq_getElem?_getD, h]; rfl
theorem zma {p mi : List Int} {k : Nat} {x y : Int} (hx : p[k]? = some x) (hy : mi[k]? = some y) (h : y = 2) : mput (x + 1) ⟨1, 2⟩ (mput x ⟨3, 2⟩ (za8 p mi k)) = za8 p mi (k + 1) := by
 conv => rhs; unfold za8
 rw [if_pos (by rw [hy, h]), zfg hx]
theorem zmb {p mi : List Int} {k : Nat} {y : Int} (hy : mi[k]? = some y) (h : y = 1) : za8 p mi k = za8 p mi (k + 1) := by
 conv => rhs; unfold za8
 rw [if_neg (by rw [hy, h]; simp)]
def refT (p mi : List Int) (i : Int) (b : Tm) : Nat -> Tm
 | 0 => b
 | k + 1 => if mi[k]? = some 2 /\ p[k]? = some i then ⟨3, 2⟩ else if mi[k]? = some 2 /\ p[k]? = some (i - 1) then ⟨1, 2⟩ else refT p mi i b k
theorem zh4 (p mi : List Int) (i : Int) (b : Tm) : ∀ k, k <= p.length -> refT p mi i b k = (mget i (za8 p mi k)).getD b
 | 0, _ => rfl
 | k + 1, h => by
  obtain ⟨x, hx⟩ : ∃ x, p[k]? = some x := ⟨_, lgg (by omega)⟩;have ih := zh4 p mi i b k (by omega);unfold refT za8;rw [zfg hx, hx];by_cases h2 : mi[k]? = some 2
  ·rw [if_pos h2, zbT, zbT];by_cases e1 : x = i
   ·rw [if_pos ⟨h2, by rw [e1]⟩, if_neg (by omega), if_pos e1]; rfl
   ·rw [if_neg (fun e => e1 (by injection e.2))];by_cases e2 : x + 1 = i
    ·rw [if_pos ⟨h2, by congr 1; omega⟩, if_pos e2]; rfl
    ·rw [if_neg (fun e => e2 (by have h3 := e.2; injection h3 with h3; omega)), if_neg e2, if_neg e1]; exact ih
  ·rw [if_neg (fun e => h2 e.1), if_neg (fun e => h2 e.1), if_neg h2]; exact ih
theorem zqe {p mi : List Int} {i x y : Int} {b : Tm} {k : Nat} (hx : p[k]? = some x) (hy : mi[k]? = some y) (h : y = 2 /\ x = i) : ⟨3, 2⟩ = refT p mi i b (k + 1) := by
 conv => rhs; unfold refT
 rw [if_pos ⟨by rw [hy, h.1], by rw [hx, h.2]⟩]
theorem zqf {p mi : List Int} {i x y : Int} {b : Tm} {k : Nat} (hx : p[k]? = some x) (hy : mi[k]? = some y) (h0 : ¬ y = 2 \/ ¬ x = i) (h : y = 2 /\ x = i - 1) : ⟨1, 2⟩ = refT p mi i b (k + 1) := by
 conv => rhs; unfold refT
 rw [if_neg (fun e => by rw [hy, hx] at e; have e1 := e.1; have e2 := e.2; injection e1; injection e2; omega), if_pos ⟨by rw [hy, h.1], by rw [hx, h.2]⟩]
theorem zqg {p mi : List Int} {i x y : Int} {b : Tm} {k : Nat} (hx : p[k]? = some x) (hy : mi[k]? = some y) (h0 : ¬ y = 2 \/ ¬ x = i) (h : ¬ y = 2 \/ ¬ x = i - 1) : refT p mi i b k = refT p mi i b (k + 1) := by
 conv => rhs; unfold refT
 rw [if_neg (fun e => by rw [hy, hx] at e; have e1 := e.1; have e2 := e.2; injection e1; injection e2; omega), if_neg (fun e => by rw [hy, hx] at e; have e1 := e.1; have e2 := e.2; injection e1; injection e2; omega)]
theorem zqh (p mi : List Int) (i : Int) (b : Tm) : b = refT p mi i b 0 := rfl
def bsT (m : Mn) (s : Sg) : Tm := if clr s = true then durT m s.Value else zo m s.Value
theorem zpw {m : Mn} {s : Sg} (h : clr s = true) : durT m s.Value = bsT m s := by unfold bsT; rw [if_pos h]
theorem zpx {m : Mn} {s : Sg} (h : clr s = false) : zo m s.Value = bsT m s := by unfold bsT; rw [if_neg (by rw [h]; decide)]
def dvK (m : Mn) (l : List Sg) (M : List (Int × Tm)) : Nat -> List Tm
 | 0 => []
 | k + 1 => match l[k]? with
  | some s => if s.Kind = 3 then dvK m l M k else dvK m l M k ++ [(mget (k : Int) M).getD (bsT m s)]
  | none => dvK m l M k
theorem zgD {m : Mn} {l : List Sg} {M : List (Int × Tm)} {k : Nat} {s : Sg} (hs : l[k]? = some s) (h : s.Kind = 3) : dvK m l M k = dvK m l M (k + 1) := by
 conv => rhs; unfold dvK
 rw [hs]; simp only [if_pos h]
theorem zgX {m : Mn} {l : List Sg} {M : List (Int × Tm)} {k : Nat} {s : Sg} (hs : l[k]? = some s) (h : ¬ s.Kind = 3) : dvK m l M k ++ [(mget (k : Int) M).getD (bsT m s)] = dvK m l M (k + 1) := by
 conv => rhs; unfold dvK
 rw [hs]; simp only [if_neg h]
theorem ziD (m : Mn) (l : List Sg) (M : List (Int × Tm)) : ∀ k, (dvK m l M k).length <= k
 | 0 => Nat.le_refl _
 | k + 1 => by
  have := ziD m l M k;unfold dvK;split
  ·split
   ·omega
   ·simp; omega
  ·omega
theorem zqi {M : List (Int × Tm)} {i : Int} {b z : Tm} (h : (mget i M).isSome = true) : (mget i M).getD z = (mget i M).getD b := by
 cases hm : mget i M with
 | none => rw [hm] at h; simp at h
 | some x => rfl
theorem zmz {M : List (Int × Tm)} {i : Int} {b : Tm} (h : (mget i M).isSome = false) : b = (mget i M).getD b := by
 cases hm : mget i M with
 | none => rfl
 | some x => rw [hm] at h; simp at h
def mnOk (mi : List Int) : Bool := mi.all fun x => decide (x = 1) || decide (x = 2)
def duE (m : Mn) (l : List Sg) (mi : List Int) : Int := if ckD m l = 0 then (if mi.length = (prL m l).length /\ mnOk mi = true then 0 else 2) else ckD m l
def duM (m : Mn) (l : List Sg) (mi : List Int) : List (Int × Tm) := za8 (prL m l) mi (prL m l).length
def duV (m : Mn) (l : List Sg) (mi : List Int) : List Tm := if duE m l mi = 0 then dvK m l (duM m l mi) l.length else []
theorem zjw {mi : List Int} {k : Nat} {y : Int} (hy : mi[k]? = some y) (h1 : ¬ y = 1) (h2 : ¬ y = 2) : mnOk mi = false := by
 cases h : mnOk mi with
 | false => rfl
 | true =>
  unfold mnOk at h;have := List.all_eq_true.1 h y (List.mem_of_getElem? hy);simp [h1, h2] at this
theorem zmA {mi : List Int} (h : ∀ (j : Nat) y, j < mi.length -> mi[j]? = some y -> y = 1 \/ y = 2) : mnOk mi = true := by
 unfold mnOk;rw [List.all_eq_true];intro y hy;obtain ⟨j, hj⟩ := List.mem_iff_getElem?.1 hy;have := h j y (List.getElem?_eq_some_iff.1 hj).1 hj;simp [this]
def mnK (mi : List Int) (k : Nat) : Prop := ∀ (j : Nat) y, j < k -> mi[j]? = some y -> y = 1 \/ y = 2
theorem zpy (mi : List Int) : mnK mi 0 := fun j y h => by omega
theorem zmB {mi : List Int} {k : Nat} {y : Int} (h : mnK mi k) (hy : mi[k]? = some y) (hv : y = 1 \/ y = 2) : mnK mi (k + 1) := fun j z hj hz => by
 rcases Nat.lt_or_ge j k with h1 | h1
 ·exact h j z h1 hz
 ·have : j = k := by omega
  subst this; rw [hy] at hz; injection hz with hz; subst hz; exact hv
theorem zmC {mi : List Int} (h : mnK mi mi.length) : mnOk mi = true := zmA fun j y hj hy => h j y hj hy
theorem zpz {m : Mn} {l : List Sg} {mi : List Int} (h : ¬ ckD m l = 0) : ckD m l = duE m l mi := by unfold duE; rw [if_neg h]
theorem zpA {m : Mn} {l : List Sg} {mi : List Int} (h : ckD m l = 0) (h2 : ¬ mi.length = (prL m l).length) : 2 = duE m l mi := by unfold duE; rw [if_pos h, if_neg (fun e => h2 e.1)]
theorem zpB {m : Mn} {l : List Sg} {mi : List Int} (h : ckD m l = 0) (h2 : mnOk mi = false) : 2 = duE m l mi := by unfold duE; rw [if_pos h, if_neg (fun e => by rw [h2] at e; exact absurd e.2 (by decide))]
theorem zpC {m : Mn} {l : List Sg} {mi : List Int} (h : ckD m l = 0) (h1 : mi.length = (prL m l).length) (h2 : mnOk mi = true) : 0 = duE m l mi := by unfold duE; rw [if_pos h, if_pos ⟨h1, h2⟩]
theorem zh5 {m : Mn} {l : List Sg} {mi : List Int} {e : Int} (h : e = duE m l mi) (he : ¬ e = 0) : [] = duV m l mi := by unfold duV; rw [if_neg (by rw [← h]; exact he)]
theorem zmD {m : Mn} {l : List Sg} {mi : List Int} (h : 0 = duE m l mi) : dvK m l (duM m l mi) l.length = duV m l mi := by unfold duV; rw [if_pos h.symm]
theorem zeR {m : Mn} {l : List Sg} (h : ckD m l = 0) {k : Nat} {s : Sg} (hs : l[k]? = some s) (h3 : ¬ s.Kind = 3) : ckM m = 0 /\ 1 <= s.Value /\ s.Value <= 8 := by
 have hm : ckM m = 0 := by
  unfold ckD at h; split at h
  ·assumption
  ·exact absurd h (by assumption)
 have hf : z7 m l 0 l = 0 := by unfold ckD at h; rw [if_pos hm] at h; exact h
 have hk : k < l.length := (List.getElem?_eq_some_iff.1 hs).1;have hF := (zab hf (k + 1) (by omega)).2 k s (by omega) hs;unfold sgF at hF;refine ⟨hm, ?_⟩;split at hF
 ·split at hF
  ·assumption
  ·omega
 ·first | omega | (rw [if_neg h3] at hF; omega) | (split at hF <;> first | omega | contradiction)
theorem zgY {m : Mn} {l : List Sg} : ∀ (k : Nat) (x : Int), x ∈ zG m l k -> 0 <= x /\ x < (k : Int)
 | 0, x, h => by unfold zG at h; simp at h
 | k + 1, x, h => by
  unfold zG at h;split at h
  ·rcases List.mem_append.1 h with h | h
   ·have := zgY k x h; omega
   ·simp at h; omega
  ·have := zgY k x h; omega
theorem zmE {m : Mn} {l : List Sg} {k : Nat} {x : Int} (h : (prL m l)[k]? = some x) : 0 <= x /\ x < (l.length : Int) := by
 unfold prL at h;split at h
 ·unfold zN at h; exact zgY _ x (List.mem_of_getElem? h)
 ·simp at h
end Go.Rse
namespace Go.Rse
open Go Go.Proofs
attribute [local irreducible] Pur yK yM Ex X Fn Imp LeV LeB FnO It yW
theorem zkj : mpOk Tryz.prog 205 3 60 := ⟨by kernel_rfl, _, Tryz.underlying3⟩
theorem ziE : ∃ d, Tryz.prog.underlying 3 = some (.int d) /\ d = .i64 := ⟨_, Tryz.underlying3, rfl⟩
attribute [local irreducible] zai zG zN z6 ckD prL twos za8 refT dvK mget mput bsT duE duV zo durT clr
set_option maxHeartbeats 2000000 in
theorem ziF (m : Mn) (l : List Sg) (mi : List Int) (hl : l.length <= 1000) (hmi : mi.length <= 1000) : Fn Tryz.prog 86 [mnA m, sgsA l, yg mi] (.tup [tmsA (duV m l mi), iv (duE m l mi)]) := by
 have hpl := zcT m l;have hm0 : [] = za8 (prL m l) mi 0 := by unfold za8; rfl
 refine Fn.go Tryz.func86 Tryz.ntmps86 (fun g w d => ?_);apply yb;refine yH ?_;iterate 2 refine ya ?_
 apply yn;iterate 2 refine ya ?_
 refine zap [(39, 39)] (zdz m l hl) ?_;refine y4 ?_;apply yd;apply yb;refine yh ?_;refine yk rfl ?_ ?_<;>intro hc1
 ·have hE := zpz (mi := mi) hc1;have hV := zh5 hE hc1;apply yb;refine yp ?_;refine X.ret ?_;refine yu (yl (ts := [(6, tmsA []), (7, iv (ckD m l))]) (hs := [])) ?_;refine yz ?_ ?_;all_goals (first | exact congrArg tmsA hV | exact congrArg (AV.int .i64) hE)
 apply yf;iterate 2 apply yd
 refine y3 (Imp.freeze (k := 39) rfl) ?_;apply yc;refine y4 ?_;refine yk rfl ?_ ?_<;>intro hc2
 ·have hE := zpA (mi := mi) hc1 (by omega);have hV := zh5 hE (by decide);apply yb;refine yh ?_;refine X.ret ?_;refine yu (yl (ts := [(6, tmsA []), (7, iv 2)]) (hs := [])) ?_;refine yz ?_ ?_;all_goals (first | exact congrArg tmsA hV | exact congrArg (AV.int .i64) hE)
 apply yf;apply yb;refine Ex.stepA (zir (k := 32) (fun i : Int => iv i) tmA) rfl rfl ?_;refine ye ?_;apply yd;apply yb;refine yp ?_;apply X.block
 refine y9 (ι := Nat) (fun (k : Nat) => [(1, sgsA l), (2, yg mi), (3, .ptr 3 0 0 0), (10, .mp 32), (33, yg (prL m l)), (34, iv (prL m l).length), (35, iv (k : Int))]) (fun (k : Nat) => [(3, .box (mnE m) 23), (32, .mpb (fun i : Int => iv i) tmA (za8 (prL m l) mi k))]) (fun (k : Nat) => k <= (prL m l).length /\ mnK mi k) (fun (k : Nat) => (prL m l).length - k) 0 (fun k hk => ?_) (hJ := by
  exact ⟨by omega, zpy mi⟩) (h0 := by
  exact yx)
 obtain ⟨hk1, hk2⟩ := hk;apply yb;refine ye ?_;apply yd;refine yk rfl ?_ ?_<;>intro hc3
 ·obtain ⟨x, hx⟩ : ∃ x, (prL m l)[k]? = some x := ⟨_, lgg (by omega)⟩;have hx2 : (prL m l)[(k : Int).toNat]? = some x := by simpa using hx
  have hxb := zmE hx;obtain ⟨y, hy⟩ : ∃ y, mi[k]? = some y := ⟨_, lgg (by omega)⟩;have hy2 : mi[(k : Int).toNat]? = some y := by simpa using hy
  apply yf;apply yd;apply X.block;apply yb;iterate 5 refine ya ?_
  apply yn;refine yX ?_;apply X.block;apply yb;refine yh ?_;refine yk rfl ?_ ?_<;>intro hc4
  ·have hst := zmb (p := prL m l) hy hc4;apply yf;apply yc;refine yh ?_
   refine yL (k + 1) (hJ := by
    exact ⟨by omega, zmB hk2 hy (by omega)⟩) (hI := yx)
  ·apply yb;refine yh ?_;refine yk rfl ?_ ?_<;>intro hc5
   ·have hst := zma hx hy hc5;apply yc;(iterate 7 refine ya ?_);refine zbC (zd4 (venc := tmA) ⟨3, 2⟩ rfl rfl rfl rfl rfl zkj ziE (fun _ _ => rfl)) ?_;refine zbC (zd4 (venc := tmA) ⟨1, 2⟩ rfl rfl rfl rfl rfl zkj ziE (fun _ _ => rfl)) ?_;apply Ex.nil;apply yc;refine yh ?_
    refine yL (k + 1) (hJ := by
     exact ⟨by omega, zmB hk2 hy (by omega)⟩) (hI := yx)
   ·have hE := zpB hc1 (zjw hy hc4 hc5);have hV := zh5 hE (by decide);apply yb;refine yh ?_;refine X.ret ?_;refine yu (yl (ts := [(6, tmsA []), (7, iv 2)]) (hs := [])) ?_;refine yz ?_ ?_;all_goals (first | exact congrArg tmsA hV | exact congrArg (AV.int .i64) hE)
 ·have hkl : k = (prL m l).length := by omega
  subst hkl;have hok : mnOk mi = true := zmC (by rw [show mi.length = (prL m l).length by omega]; exact hk2);have hE := zpC hc1 (by omega) hok;have hV := zmD hE;have hd0 : [] = dvK m l (duM m l mi) 0 := by unfold dvK; rfl
  apply X.exit;apply yb;refine ye ?_;iterate 2 apply yd
  refine y3 (yZ tmE 60 2 13 13 rfl rfl) ?_;apply yc;refine yp ?_;apply X.block
  refine y9 (ι := Nat) (fun (k : Nat) => [(3, .ptr 3 0 0 0), (10, .mp 32), (13, .own 13), (56, sgsA l), (57, iv l.length), (58, iv (k : Int))]) (fun (k : Nat) => [(3, .box (mnE m) 23), (32, .mpb (fun i : Int => iv i) tmA (duM m l mi)), (13, .row tmE (dvK m l (duM m l mi) k) 60 2)]) (fun (k : Nat) => k <= l.length) (fun (k : Nat) => l.length - k) 0 (fun k hk => ?_) (h0 := by
   exact yx)
  apply yb;refine ye ?_;apply yd;refine yk rfl ?_ ?_<;>intro hc6
  ·obtain ⟨s, hs⟩ : ∃ s, l[k]? = some s := ⟨_, lgg (by omega)⟩;have hs2 : l[(k : Int).toNat]? = some s := by simpa using hs
   have hlen := ziD m l (duM m l mi) k;apply yf;apply yd;apply X.block;apply yb;(iterate 3 refine ya ?_);refine yJ ?_;refine ya ?_;refine yi ?_;apply yn;(iterate 2 refine ya ?_);refine ya (hs := znn (venc := tmA) tmZ rfl rfl rfl zkj ziE (fun _ _ => rfl) (znp ze60)) ?_;(iterate 3 refine ya ?_);refine yJ ?_;refine yi ?_;refine ye ?_;apply yd;apply X.block;apply yb;refine yX ?_;refine yk rfl ?_ ?_<;>intro hc7
   ·have hrow := zgD (m := m) (M := duM m l mi) hs hc7;apply X.exit;apply yc;refine yh ?_;refine yL (k + 1) (hI := yx)
   have hval := zeR hc1 hs hc7;have hrow := zgX (m := m) (M := duM m l mi) hs hc7;apply yb;refine yh ?_;refine yk rfl ?_ ?_<;>intro hc8
   ·rw [← zqi (z := tmZ) hc8] at hrow;apply yf;apply yc;(iterate 2 refine ya ?_);refine yO tmE [⟨_, _⟩] ?_;refine yi ?_;refine ye ?_;apply yc;refine yh ?_;refine yL (k + 1) (hI := yx)
   ·apply yb;refine ya ?_;refine yr (zaO _) ?_;refine ye ?_;refine yk rfl ?_ ?_<;>intro hc9
    ·rw [← zmz hc8, ← zpw hc9] at hrow;apply yc;(iterate 3 refine ya ?_);refine yr (zjo m hval.1 s.Value hval.2.1 hval.2.2) ?_;refine yi ?_;apply Ex.nil;apply yc;(iterate 2 refine ya ?_);refine yO tmE [⟨_, _⟩] ?_;refine yi ?_;refine ye ?_;apply yc;refine yh ?_;refine yL (k + 1) (hI := yx)
    ·rw [← zmz hc8, ← zpx hc9] at hrow;apply yc;(iterate 3 refine ya ?_);refine yr (zcS hval.1 hval.2.1 hval.2.2) ?_;(iterate 3 refine ya ?_);refine yi ?_;apply Ex.nil;apply yc;(iterate 2 refine ya ?_);refine yO tmE [⟨_, _⟩] ?_;refine yi ?_;refine ye ?_;apply yc;refine yh ?_;refine yL (k + 1) (hI := yx)
  ·have hkl2 : k = l.length := by omega
   subst hkl2;apply X.exit;apply yb;refine yp ?_;refine X.ret ?_;refine yu (Imp.freeze (k := 13) rfl) ?_;refine yz ?_ ?_;all_goals (first | exact congrArg tmsA hV | exact congrArg (AV.int .i64) hE)
set_option maxHeartbeats 2000000 in
theorem zeS (m : Mn) (l : List Sg) (mi : List Int) (hl : l.length <= 1000) (hmi : mi.length <= 1000) : Fn Tryz.prog 146 [mnA m, sgsA l, yg mi] (.tup [tmsA (duV m l mi), iv (duE m l mi)]) := by
 have hpl := zcT m l;refine Fn.go Tryz.func146 Tryz.ntmps146 (fun g w d => ?_);apply yb;refine yH ?_;iterate 2 refine ya ?_
 apply yn;iterate 2 refine ya ?_
 refine yr (zbz m l hl) ?_;refine y4 ?_;apply yd;apply yb;refine yh ?_;refine yk rfl ?_ ?_<;>intro hc1
 ·have hE := zpz (mi := mi) hc1;have hV := zh5 hE hc1;apply yb;refine yp ?_;refine X.ret ?_;refine yu (yl (ts := [(6, tmsA []), (7, iv (ckD m l))]) (hs := [])) ?_;refine yz ?_ ?_;all_goals (first | exact congrArg tmsA hV | exact congrArg (AV.int .i64) hE)
 apply yf;apply yd;apply yb;refine y4 ?_;refine yk rfl ?_ ?_<;>intro hc2
 ·have hE := zpA (mi := mi) hc1 (by omega);have hV := zh5 hE (by decide);apply yb;refine yh ?_;refine X.ret ?_;refine yu (yl (ts := [(6, tmsA []), (7, iv 2)]) (hs := [])) ?_;refine yz ?_ ?_;all_goals (first | exact congrArg tmsA hV | exact congrArg (AV.int .i64) hE)
 apply yf;apply yd;apply yb;refine ye ?_;apply X.block
 refine y9 (ι := Nat) (fun (k : Nat) => [(1, sgsA l), (2, yg mi), (3, .ptr 3 0 0 0), (8, yg (prL m l)), (10, iv (k : Int))]) (fun (k : Nat) => [(3, .box (mnE m) 23)]) (fun (k : Nat) => k <= mi.length /\ mnK mi k) (fun (k : Nat) => mi.length - k) 0 (fun k hk => ?_) (hJ := by
  exact ⟨by omega, zpy mi⟩)
 obtain ⟨hk1, hk2⟩ := hk;apply yd;apply yb;refine yX ?_;refine yk rfl ?_ ?_<;>intro hc3
 ·obtain ⟨y, hy⟩ : ∃ y, mi[k]? = some y := ⟨_, lgg (by omega)⟩;have hy2 : mi[(k : Int).toNat]? = some y := by simpa using hy
  apply yf;apply yd;apply X.block;apply yb;iterate 5 refine ya ?_
  refine ExF.at 5 ?_;refine yC ?_;iterate 5 refine ExF.gi ?_
  refine yA ?_;refine ye ?_;refine yk rfl ?_ ?_<;>intro hc4
  ·have hE := zpB hc1 (zjw hy hc4.1 hc4.2);have hV := zh5 hE (by decide);apply yb;refine yh ?_;refine X.ret ?_;refine yu (yl (ts := [(6, tmsA []), (7, iv 2)]) (hs := [])) ?_;refine yz ?_ ?_;all_goals (first | exact congrArg tmsA hV | exact congrArg (AV.int .i64) hE)
  apply yf;apply yc;refine yp ?_
  refine yL (k + 1) (hJ := by
   exact ⟨by omega, zmB hk2 hy (by omega)⟩)
 ·have hkl : k = mi.length := by omega
  subst hkl;have hok : mnOk mi = true := zmC hk2;have hE := zpC hc1 (by omega) hok;have hV := zmD hE;have hd0 : [] = dvK m l (duM m l mi) 0 := by unfold dvK; rfl
  apply X.exit;apply yb;refine ye ?_;iterate 2 apply yd
  refine y3 (yZ tmE 60 2 11 11 rfl rfl) ?_;apply yc;refine ye ?_;apply X.block
  refine y9 (ι := Nat) (fun (k : Nat) => [(1, sgsA l), (2, yg mi), (3, .ptr 3 0 0 0), (8, yg (prL m l)), (11, .own 11), (12, iv (k : Int))]) (fun (k : Nat) => [(3, .box (mnE m) 23), (11, .row tmE (dvK m l (duM m l mi) k) 60 2)]) (fun (k : Nat) => k <= l.length) (fun (k : Nat) => l.length - k) 0 (fun k hk => ?_) (h0 := by
   exact yx)
  apply yd;apply yb;refine yX ?_;refine yk rfl ?_ ?_<;>intro hc5
  ·obtain ⟨s, hs⟩ : ∃ s, l[k]? = some s := ⟨_, lgg (by omega)⟩;have hs2 : l[(k : Int).toNat]? = some s := by simpa using hs
   have hlen := ziD m l (duM m l mi) k;apply yf;apply yd;apply X.block;apply yd;apply yb;(iterate 5 refine ya ?_);refine ye ?_;refine yk rfl ?_ ?_<;>intro hc6
   ·have hrow := zgD (m := m) (M := duM m l mi) hs hc6;apply X.exit;apply yc;refine yp ?_;refine yL (k + 1) (hI := yx)
   have hval := zeR hc1 hs hc6;apply yf;apply yd;refine zi [13,60,61,62,63,64,65,66,67,68,69] [0,0,0,6,14,30,63,127,255,255,0,1535,4095] mo ?_;(iterate 6 refine yj ?_);refine zj (zaG hval.1 hval.2.1 hval.2.2) ?_;(iterate 3 refine yj ?_);refine ChM.step rfl rfl rfl (zA (k := 13) zc60) rfl ?_;refine zbe 9 ⟨[(1, sgsA l), (2, yg mi), (3, .ptr 3 0 0 0), (8, yg (prL m l)), (11, .own 11), (12, iv (k : Int)), (13, .ptr 13 0 0 0)], [(3, .box (mnE m) 23), (11, .row tmE (dvK m l (duM m l mi) k) 60 2), (13, .box (tmE (zo m s.Value)) 60)]⟩ (fun Q hQ => ?_) (fun Q hQ => ?_) ?_
   ·refine yi ?_;refine ya ?_;exact ze yx hQ
   ·refine yi ?_;(iterate 2 refine ya ?_);exact ze yx hQ
   apply Ex.nil;refine zc6 ⟨[(1, sgsA l), (2, yg mi), (3, .ptr 3 0 0 0), (8, yg (prL m l)), (11, .own 11), (12, iv (k : Int)), (13, .ptr 13 0 0 0)], [(3, .box (mnE m) 23), (11, .row tmE (dvK m l (duM m l mi) k) 60 2), (13, .box (tmE (bsT m s)) 60)]⟩ (fun hJ19 => ?_) ?_
   ·apply yb;(iterate 4 refine ya ?_);refine yr (zB _) ?_;apply Ex.nil;refine yk rfl ?_ ?_<;>intro hc7
    ·have hb0 : tmE (durT m s.Value) = tmE (bsT m s) := congrArg tmE (zpw hc7);refine zi [75,76,77,78,79,80] [0,0,0,6,14,30,63,127] mo ?_;(iterate 6 refine yj ?_);refine yR ?_;refine yr (ze9 m hval.1 s.Value hval.2.1 hval.2.2) ?_;refine yi ?_;apply Ex.nil;exact y3 yx hJ19
    ·have hb0 : tmE (zo m s.Value) = tmE (bsT m s) := congrArg tmE (zpx hc7);apply yf;exact y3 yx hJ19
   apply yd;apply yb;refine ye ?_;apply X.block;have hr0 : tmE (bsT m s) = tmE (refT (prL m l) mi (k : Int) (bsT m s) 0) := congrArg tmE (zqh _ _ _ _)
   refine y9 (ι := Nat) (fun (j : Nat) => [(1, sgsA l), (2, yg mi), (3, .ptr 3 0 0 0), (8, yg (prL m l)), (11, .own 11), (12, iv (k : Int)), (13, .ptr 13 0 0 0), (15, iv (j : Int))]) (fun (j : Nat) => [(3, .box (mnE m) 23), (11, .row tmE (dvK m l (duM m l mi) k) 60 2), (13, .box (tmE (refT (prL m l) mi (k : Int) (bsT m s) j)) 60)]) (fun (j : Nat) => j <= (prL m l).length) (fun (j : Nat) => (prL m l).length - j) 0 (fun j hk => ?_) (h0 := by
    exact yx)
   apply yd;apply yb;refine yX ?_;refine yk rfl ?_ ?_<;>intro hc8
   ·obtain ⟨x, hx⟩ : ∃ x, (prL m l)[j]? = some x := ⟨_, lgg (by omega)⟩;have hx2 : (prL m l)[(j : Int).toNat]? = some x := by simpa using hx
    have hxb := zmE hx;obtain ⟨y, hy⟩ : ∃ y, mi[j]? = some y := ⟨_, lgg (by omega)⟩;have hy2 : mi[(j : Int).toNat]? = some y := by simpa using hy
    apply yf;apply yd;(iterate 2 apply X.block);apply yb;(iterate 5 refine ya ?_);refine ExF.at 5 ?_;refine yC ?_;(iterate 6 refine ExF.gi ?_);refine yA ?_;refine yh ?_;refine yk rfl ?_ ?_<;>intro hc9
    ·have hst : tmE ⟨3, 2⟩ = tmE (refT (prL m l) mi (k : Int) (bsT m s) (j + 1)) := congrArg tmE (zqe hx hy hc9);apply yc;refine ya ?_;refine yi ?_;apply Ex.nil;apply yc;refine yp ?_;refine yL (j + 1) (hI := yx)
    ·apply yb;(iterate 5 refine ya ?_);refine ExF.at 5 ?_;refine yC ?_;(iterate 7 refine ExF.gi ?_);refine yA ?_;refine yh ?_;refine yk rfl ?_ ?_<;>intro hc10
     ·have hst : tmE ⟨1, 2⟩ = tmE (refT (prL m l) mi (k : Int) (bsT m s) (j + 1)) := congrArg tmE (zqf hx hy hc9 hc10);apply yc;refine ya ?_;refine yi ?_;apply Ex.nil;apply yc;refine yp ?_;refine yL (j + 1) (hI := yx)
     ·have hst : tmE (refT (prL m l) mi (k : Int) (bsT m s) j) = tmE (refT (prL m l) mi (k : Int) (bsT m s) (j + 1)) := congrArg tmE (zqg hx hy hc9 hc10);apply yf;apply yc;refine yp ?_;refine yL (j + 1) (hI := yx)
   ·have hjl : j = (prL m l).length := by omega
    subst hjl;have hrow : dvK m l (duM m l mi) k ++ [refT (prL m l) mi (k : Int) (bsT m s) (prL m l).length] = dvK m l (duM m l mi) (k + 1) := by rw [zh4 _ _ _ _ _ (Nat.le_refl _)]; exact zgX hs hc6
    apply X.exit;apply yc;(iterate 2 refine ya ?_);refine yO tmE [⟨_, _⟩] ?_;refine yi ?_;refine ye ?_;apply yc;refine yp ?_;refine yL (k + 1) (hI := yx)
  ·have hkl2 : k = l.length := by omega
   subst hkl2;apply X.exit;apply yb;refine yp ?_;refine X.ret ?_;refine yu (Imp.freeze (k := 11) rfl) ?_;refine yz ?_ ?_;all_goals (first | exact congrArg tmsA hV | exact congrArg (AV.int .i64) hE)
end Go.Rse
