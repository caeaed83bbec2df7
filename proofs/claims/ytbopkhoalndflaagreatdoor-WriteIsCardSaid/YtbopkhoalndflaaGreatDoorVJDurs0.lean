/-
  Plain.
-/
import Derived.Test.YtbopkhoalndflaaGreatDoorVJRef9
set_option linter.all false
namespace Go.Rse
open Go Go.Proofs Go.Proofs.Tryz
section
section
variable {α : Type}
def zeQ {q : Int} : ∀ (l : List (Int × α)) (i : Nat), mix q l i = (mix q l 0).map (fun p => (p.1 + i, p.2))
 | [], i => rfl
 | p :: l, i => by
  unfold mix;by_cases h : p.1 = q
  ·simp [h]
  ·rw [j3 h, j3 h, zeQ l (i + 1), zeQ l 1, Option.map_map];congr 1; funext x; simp; omega
def zo2 (q : Int) : mget q ([] : List (Int × α)) = none := rfl
def zdo (q : Int) (p : Int × α) (l : List (Int × α)) : mget q (p :: l) = if p.1 = q then some p.2 else mget q l := by
 have e : mix q (p :: l) 0 = if p.1 = q then some (0, p.2) else mix q l 1 := rfl
 unfold mget;rw [e];by_cases h : p.1 = q
 ·simp [h]
 ·rw [j3 h, j3 h, zeQ l 1, Option.map_map]; rfl
def zo3 (q : Int) (x : α) : mput q x [] = [(q, x)] := rfl
def zot (q : Int) (x : α) (p : Int × α) (l : List (Int × α)) : mput q x (p :: l) = if p.1 = q then (q, x) :: l else p :: mput q x l := by
 unfold mput;by_cases h : p.1 = q
 ·simp [mix, h]
 ·have e : mix q (p :: l) 0 = (mix q l 0).map (fun z => (z.1 + 1, z.2)) := by
   rw [show mix q (p :: l) 0 = mix q l 1 by simp [mix, h], zeQ l 1]
  rw [e, j3 h];cases mix q l 0 with
  | none => rfl
  | some z => rfl
theorem zdp (q q' : Int) (x : α) : ∀ l : List (Int × α), mget q (mput q' x l) = if q' = q then some x else mget q l
 | [] => by rw [zo3, zdo]
 | p :: l => by
  rw [zot];by_cases h : p.1 = q'
  ·rw [j4 h, zdo, zdo];by_cases Z : q' = q
   ·simp [Z]
   ·rw [j3 Z, j3 Z, j3 (by rw [h]; exact Z)]
  ·rw [j3 h, zdo, zdo, zdp q q' x l];by_cases Z : p.1 = q
   ·rw [j4 Z, j4 Z, j3 (by omega)]
   ·rw [j3 Z, j3 Z]
end
end
section
def zbL (p mi : List Int) : Nat -> List (Int × Tm)
 | 0 => []
 | k + 1 => if mi[k]? = some 2 then mput (p.getD k 0 + 1) ⟨1, 2⟩ (mput (p.getD k 0) ⟨3, 2⟩ (zbL p mi k)) else zbL p mi k
def zAt {α : Type} {l : List α} {k : Nat} {x d : α} (h : l[k]? = some x) : l.getD k d = x := by
 simp_all
def zou {p mi : List Int} {k : Nat} {x y : Int} (hx : p[k]? = some x) (Z : mi[k]? = some y) (h : y = 2) : mput (x + 1) ⟨1, 2⟩ (mput x ⟨3, 2⟩ (zbL p mi k)) = zbL p mi (k + 1) := by
 simp_all [zbL]
def zov {p mi : List Int} {k : Nat} {y : Int} (Z : mi[k]? = some y) (h : y = 1) : zbL p mi k = zbL p mi (k + 1) := by
 simp_all [zbL]
def refT (p mi : List Int) (i : Int) (b : Tm) : Nat -> Tm
 | 0 => b
 | k + 1 => if mi[k]? = some 2 /\ p[k]? = some i then ⟨3, 2⟩ else if mi[k]? = some 2 /\ p[k]? = some (i - 1) then ⟨1, 2⟩ else refT p mi i b k
def zjA (p mi : List Int) (i : Int) (b : Tm) : ∀ k, k <= p.length -> refT p mi i b k = (mget i (zbL p mi k)).getD b
 | 0, _ => rfl
 | k + 1, h => by
  obtain ⟨x, hx⟩ : ∃ x, p[k]? = some x := ⟨_, lgg (by omega)⟩;have ih := zjA p mi i b k (by omega)
  grind [refT, zbL, zdp]
def zuR {p mi : List Int} {i x y : Int} {b : Tm} {k : Nat} (hx : p[k]? = some x) (Z : mi[k]? = some y) (h : y = 2 /\ x = i) : ⟨3, 2⟩ = refT p mi i b (k + 1) := by
 simp_all [refT]
def zuS {p mi : List Int} {i x y : Int} {b : Tm} {k : Nat} (hx : p[k]? = some x) (Z : mi[k]? = some y) (h0 : ¬ y = 2 \/ ¬ x = i) (h : y = 2 /\ x = i - 1) : ⟨1, 2⟩ = refT p mi i b (k + 1) := by
 simp_all [refT]
def zuT {p mi : List Int} {i x y : Int} {b : Tm} {k : Nat} (hx : p[k]? = some x) (Z : mi[k]? = some y) (h0 : ¬ y = 2 \/ ¬ x = i) (h : ¬ y = 2 \/ ¬ x = i - 1) : refT p mi i b k = refT p mi i b (k + 1) := by
 grind [refT]
def zuU (p mi : List Int) (i : Int) (b : Tm) : b = refT p mi i b 0 := rfl
def bsT (m : Mn) (s : Sg) : Tm := if clr s = true then durT m s.Value else yp m s.Value
def ztM {m : Mn} {s : Sg} (h : clr s = true) : durT m s.Value = bsT m s := by unfold bsT; rw [j4 h]
def ztN {m : Mn} {s : Sg} (h : clr s = false) : yp m s.Value = bsT m s := by simp_all [bsT]
def dvK (m : Mn) (l : List Sg) (M : List (Int × Tm)) : Nat -> List Tm
 | 0 => []
 | k + 1 => match l[k]? with
  | some s => if s.Kind = 3 then dvK m l M k else dvK m l M k ++ [(mget (k : Int) M).getD (bsT m s)]
  | none => dvK m l M k
def zki {m : Mn} {l : List Sg} {M : List (Int × Tm)} {k : Nat} {s : Sg} (hs : l[k]? = some s) (h : s.Kind = 3) : dvK m l M k = dvK m l M (k + 1) := by
 simp_all [dvK]
def zmi {m : Mn} {l : List Sg} {M : List (Int × Tm)} {k : Nat} {s : Sg} (hs : l[k]? = some s) (h : ¬ s.Kind = 3) : dvK m l M k ++ [(mget (k : Int) M).getD (bsT m s)] = dvK m l M (k + 1) := by
 simp_all [dvK]
def zkj (m : Mn) (l : List Sg) (M : List (Int × Tm)) : ∀ k, (dvK m l M k).length <= k
 | 0 => jC _
 | k + 1 => by
  have := zkj m l M k
  grind [dvK]
def zuV {M : List (Int × Tm)} {i : Int} {b z : Tm} (h : (mget i M).isSome = true) : (mget i M).getD z = (mget i M).getD b := by
 cases hm : mget i M <;> simp_all
def zo4 {M : List (Int × Tm)} {i : Int} {b : Tm} (h : (mget i M).isSome = false) : b = (mget i M).getD b := by
 simp_all
def mnOk (mi : List Int) : Bool := mi.all fun x => decide (x = 1) || decide (x = 2)
def duE (m : Mn) (l : List Sg) (mi : List Int) : Int := if ckD m l = 0 then (if mi.length = (prL m l).length /\ mnOk mi = true then 0 else 2) else ckD m l
def duM (m : Mn) (l : List Sg) (mi : List Int) : List (Int × Tm) := zbL (prL m l) mi (prL m l).length
def duV (m : Mn) (l : List Sg) (mi : List Int) : List Tm := if duE m l mi = 0 then dvK m l (duM m l mi) l.length else []
def zlm {mi : List Int} {k : Nat} {y : Int} (Z : mi[k]? = some y) (V : ¬ y = 1) (U : ¬ y = 2) : mnOk mi = false := by
 cases h : mnOk mi with
 | false => rfl
 | true =>
  unfold mnOk at h;have := jB.1 h y (j6 Z)
  grind
def zo5 {mi : List Int} (h : ∀ (j : Nat) y, j < mi.length -> mi[j]? = some y -> y = 1 \/ y = 2) : mnOk mi = true := by
 grind [mnOk, List.mem_iff_getElem?]
def mnK (mi : List Int) (k : Nat) : Prop := ∀ (j : Nat) y, j < k -> mi[j]? = some y -> y = 1 \/ y = 2
def ztO (mi : List Int) : mnK mi 0 := fun j y h => by omega
def zo6 {mi : List Int} {k : Nat} {y : Int} (h : mnK mi k) (U : mi[k]? = some y) (hv : y = 1 \/ y = 2) : mnK mi (k + 1) := fun j z T V => by
 rcases w6 j k with Z | Z
 ·exact h j z Z V
 grind
def zo7 {mi : List Int} (h : mnK mi mi.length) : mnOk mi = true := zo5 fun j y Z V => h j y Z V
def ztP {m : Mn} {l : List Sg} {mi : List Int} (h : ¬ ckD m l = 0) : ckD m l = duE m l mi := by unfold duE; rw [j3 h]
def ztQ {m : Mn} {l : List Sg} {mi : List Int} (h : ckD m l = 0) (Z : ¬ mi.length = (prL m l).length) : 2 = duE m l mi := by simp_all [duE]
def ztR {m : Mn} {l : List Sg} {mi : List Int} (h : ckD m l = 0) (Z : mnOk mi = false) : 2 = duE m l mi := by simp_all [duE]
def ztS {m : Mn} {l : List Sg} {mi : List Int} (h : ckD m l = 0) (Z : mi.length = (prL m l).length) (V : mnOk mi = true) : 0 = duE m l mi := by simp_all [duE]
def zjB {m : Mn} {l : List Sg} {mi : List Int} {e : Int} (h : e = duE m l mi) (he : ¬ e = 0) : [] = duV m l mi := by simp_all [duV]
def ztT {m : Mn} {l : List Sg} {mi : List Int} (h : 0 = duE m l mi) : dvK m l (duM m l mi) l.length = duV m l mi := by simp_all [duV]
def zfz {m : Mn} {l : List Sg} (h : ckD m l = 0) {k : Nat} {s : Sg} (hs : l[k]? = some s) (Z : ¬ s.Kind = 3) : ckM m = 0 /\ 1 <= s.Value /\ s.Value <= 8 := by
 have hm : ckM m = 0 := by
  unfold ckD at h; split at h
  ·assumption
  ·exact absurd h (by assumption)
 have hf : zan m l 0 l = 0 := by unfold ckD at h; rw [j4 hm] at h; exact h
 have V : k < l.length := (j1.1 hs).1;have U := (zas hf (k + 1) (by omega)).2 k s (by omega) hs;simp_all [sgF]; omega
def zh7 {m : Mn} {l : List Sg} : ∀ (k : Nat) (x : Int), x ∈ zI m l k -> 0 <= x /\ x < (k : Int)
 | 0, x, h => by grind [zI]
 | k + 1, x, h => by
  unfold zI at h;split at h
  ·rcases wG.1 h with h | h
   ·have := zh7 k x h; omega
   ·simp at h; omega
  ·have := zh7 k x h; omega
def zo8 {m : Mn} {l : List Sg} {k : Nat} {x : Int} (h : (prL m l)[k]? = some x) : 0 <= x /\ x < (l.length : Int) := by
 unfold prL at h;split at h
 ·unfold zaq at h; exact zh7 _ x (j6 h)
 ·simp at h
end
section
attribute [local irreducible] Pur yu yq Ex X Fn Imp LeV LeB FnO It yD
def zmj : mpOk prog 278 3 83 := ⟨by kernel_rfl, _, Tryz.underlying3⟩
def zkk : ∃ d, prog.underlying 3 = some (.int d) /\ d = .i64 := ⟨_, Tryz.underlying3, rfl⟩
attribute [local irreducible] zaB zI zaq zam ckD prL twos zbL refT dvK mget mput bsT duE duV yp durT clr
set_option maxHeartbeats 2000000 in
def zkl (m : Mn) (l : List Sg) (mi : List Int) (hl : l.length <= 1000) (x1 : mi.length <= 1000) : Fn prog 189 [mnA m, sgsA l, yc mi] (.tup [tmsA (duV m l mi), iv (duE m l mi)]) := by
 have x0 := zeV m l;have w2 : [] = zbL (prL m l) mi 0 := by unfold zbL; rfl
 refine xV func189 ntmps189 (fun g w d => ?_);refine gq ?_;refine zV [(39, 39)] (zem m l hl) ?_;refine gd ?_ ?_<;>intro U
 ·have hE := ztP (mi := mi) U;have T := zjB hE U;apply ye;refine yy ?_;refine xU ?_;refine xQ (yd (ts := [(6, tmsA []), (7, iv (ckD m l))]) (hs := [])) ?_;refine yj ?_ ?_;all_goals (first | exact j5 tmsA T | exact j5 (AV.int .i64) hE)
 apply yl;iterate 2 apply yg
 refine xZ (xP (k := 39) rfl) ?_;refine gd ?_ ?_<;>intro v9
 ·have hE := ztQ (mi := mi) U (by omega);have T := zjB hE (by decide);apply ye;refine yL ?_;refine xU ?_;refine xQ (yd (ts := [(6, tmsA []), (7, iv 2)]) (hs := [])) ?_;refine yj ?_ ?_;all_goals (first | exact j5 tmsA T | exact j5 (AV.int .i64) hE)
 refine gq ?_;refine kF (zhc (k := 32) (fun i : Int => iv i) tmA) rfl rfl ?_;refine yh ?_;apply yg;apply ye;refine yy ?_;apply xS;refine zX (fun k => [(1, sgsA l), (2, yc mi), (3, .ptr 3 0 0 0), (10, .mp 32), (33, yc (prL m l)), (34, iv (prL m l).length), (35, iv (k : Int))]) (fun k => [(3, .box (mnE m) 23), (32, .mpb (fun i : Int => iv i) tmA (zbL (prL m l) mi k))]) (fun k => k <= (prL m l).length /\ mnK mi k) ((prL m l).length) (fun k hk => ?_) (hJ := by exact ⟨by omega, ztO mi⟩);obtain ⟨v8, Q⟩ := hk;refine gd ?_ ?_<;>intro v5
 ·obtain ⟨x, hx⟩ : ∃ x, (prL m l)[k]? = some x := ⟨_, lgg (by omega)⟩;have v4 : (prL m l)[(k : Int).toNat]? = some x := by simpa using hx
  have v3 := zo8 hx;obtain ⟨y, I⟩ : ∃ y, mi[k]? = some y := ⟨_, lgg (by omega)⟩;have v1 : mi[(k : Int).toNat]? = some y := by simpa using I
  refine gd ?_ ?_<;>intro H
  ·have x4 := zov (p := prL m l) I H;refine gq ?_;refine yw (k + 1) (hJ := by exact ⟨by omega, zo6 Q I (by omega)⟩) (hI := yk)
  ·refine gd ?_ ?_<;>intro G
   ·have x4 := zou hx I G;refine gq ?_;refine zaO (zeM (venc := tmA) ⟨3, 2⟩ rfl rfl rfl rfl rfl zmj zkk (fun _ _ => rfl)) ?_;refine zaO (zeM (venc := tmA) ⟨1, 2⟩ rfl rfl rfl rfl rfl zmj zkk (fun _ _ => rfl)) ?_;refine gq ?_;refine yw (k + 1) (hJ := by exact ⟨by omega, zo6 Q I (by omega)⟩) (hI := yk)
   ·have hE := ztR U (zlm I H G);have T := zjB hE (by decide);apply ye;refine yL ?_;refine xU ?_;refine xQ (yd (ts := [(6, tmsA []), (7, iv 2)]) (hs := [])) ?_;refine yj ?_ ?_;all_goals (first | exact j5 tmsA T | exact j5 (AV.int .i64) hE)
 ·have x3 : k = (prL m l).length := by omega
  subst x3;have hok : mnOk mi = true := zo7 (by rw [show mi.length = (prL m l).length by omega]; exact Q);have hE := ztS U (by omega) hok;have T := ztT hE;have v0 : [] = dvK m l (duM m l mi) 0 := by unfold dvK; rfl
  apply k8;apply ye;refine yh ?_;iterate 2 apply yg
  refine xZ (yF tmE 83 2 13 13 rfl rfl) ?_;apply yi;refine yy ?_;apply xS;refine zq (fun k => [(3, .ptr 3 0 0 0), (10, .mp 32), (13, .own 13), (56, sgsA l), (57, iv l.length), (58, iv (k : Int))]) (fun k => [(3, .box (mnE m) 23), (32, .mpb (fun i : Int => iv i) tmA (duM m l mi)), (13, .row tmE (dvK m l (duM m l mi) k) 83 2)]) l.length (fun k hk => ?_);refine gd ?_ ?_<;>intro u3
  ·obtain ⟨s, hs⟩ : ∃ s, l[k]? = some s := ⟨_, lgg (by omega)⟩;have u2 : l[(k : Int).toNat]? = some s := by simpa using hs
   have x2 := zkj m l (duM m l mi) k;apply yl;apply yg;apply xS;apply ye;(iterate 3 refine ya ?_);refine zh ?_;refine ya ?_;refine xY ?_;apply yE;(iterate 2 refine ya ?_);refine ya (hs := zqX (venc := tmA) tmZ rfl rfl rfl zmj zkk (fun _ _ => rfl) (zqZ ze83)) ?_;refine gd ?_ ?_<;>intro N
   ·have V := zki (m := m) (M := duM m l mi) hs N;refine gq ?_;refine yw (k + 1) (hI := yk)
   have Z := zfz U hs N;have V := zmi (m := m) (M := duM m l mi) hs N;refine gd ?_ ?_<;>intro J
   ·rw [← zuV (z := tmZ) J] at V;refine gq ?_;refine yz tmE [⟨_, _⟩] ?_;refine gq ?_;refine yw (k + 1) (hI := yk)
   ·refine gc (za8 _) ?_;refine gd ?_ ?_<;>intro E
    ·rw [← zo4 J, ← ztM E] at V;refine gc (zhe m Z.1 s.Value Z.2.1 Z.2.2) ?_;refine yz tmE [⟨_, _⟩] ?_;refine gq ?_;refine yw (k + 1) (hI := yk)
    ·rw [← zo4 J, ← ztN E] at V;refine gc (zaT Z.1 Z.2.1 Z.2.2) ?_;refine yz tmE [⟨_, _⟩] ?_;refine gq ?_;refine yw (k + 1) (hI := yk)
  ·have xT : k = l.length := by omega
   subst xT;apply k8;apply ye;refine yy ?_;refine xU ?_;refine xQ (xP (k := 13) rfl) ?_;refine yj ?_ ?_;all_goals (first | exact j5 tmsA T | exact j5 (AV.int .i64) hE)
set_option maxHeartbeats 2000000 in
def zfA (m : Mn) (l : List Sg) (mi : List Int) (hl : l.length <= 1000) (v5 : mi.length <= 1000) : Fn prog 240 [mnA m, sgsA l, yc mi] (.tup [tmsA (duV m l mi), iv (duE m l mi)]) := by
 have v4 := zeV m l;refine xV func240 ntmps240 (fun g w d => ?_);refine gc (zb6 m l hl) ?_;refine gd ?_ ?_<;>intro V
 ·have hE := ztP (mi := mi) V;have J := zjB hE V;apply ye;refine yy ?_;refine xU ?_;refine xQ (yd (ts := [(6, tmsA []), (7, iv (ckD m l))]) (hs := [])) ?_;refine yj ?_ ?_;all_goals (first | exact j5 tmsA J | exact j5 (AV.int .i64) hE)
 refine gd ?_ ?_<;>intro v3
 ·have hE := ztQ (mi := mi) V (by omega);have J := zjB hE (by decide);apply ye;refine yL ?_;refine xU ?_;refine xQ (yd (ts := [(6, tmsA []), (7, iv 2)]) (hs := [])) ?_;refine yj ?_ ?_;all_goals (first | exact j5 tmsA J | exact j5 (AV.int .i64) hE)
 apply yl;apply yg;apply ye;refine yh ?_;apply xS;refine zX (fun k => [(1, sgsA l), (2, yc mi), (3, .ptr 3 0 0 0), (8, yc (prL m l)), (10, iv (k : Int))]) (fun k => [(3, .box (mnE m) 23)]) (fun k => k <= mi.length /\ mnK mi k) mi.length (fun k hk => ?_) (hJ := by exact ⟨by omega, ztO mi⟩) (h0 := yd);obtain ⟨v1, G⟩ := hk;refine gd ?_ ?_<;>intro v0
 ·obtain ⟨y, U⟩ : ∃ y, mi[k]? = some y := ⟨_, lgg (by omega)⟩;have x1 : mi[(k : Int).toNat]? = some y := by simpa using U
  apply yl;apply yg;apply xS;apply ye;iterate 5 refine ya ?_
  refine xX 5 ?_;refine ym ?_;iterate 5 refine xW ?_
  refine gf ?_ ?_<;>intro E
  ·have hE := ztR V (zlm U E.1 E.2);have J := zjB hE (by decide);apply ye;refine yL ?_;refine xU ?_;refine xQ (yd (ts := [(6, tmsA []), (7, iv 2)]) (hs := [])) ?_;refine yj ?_ ?_;all_goals (first | exact j5 tmsA J | exact j5 (AV.int .i64) hE)
  refine gq ?_;refine yw (k + 1) (hJ := by exact ⟨by omega, zo6 G U (by omega)⟩)
 ·have x0 : k = mi.length := by omega
  subst x0;have hok : mnOk mi = true := zo7 G;have hE := ztS V (by omega) hok;have J := ztT hE;have u3 : [] = dvK m l (duM m l mi) 0 := by unfold dvK; rfl
  apply k8;apply ye;refine yh ?_;iterate 2 apply yg
  refine xZ (yF tmE 83 2 11 11 rfl rfl) ?_;apply yi;refine yh ?_;apply xS;refine zq (fun k => [(1, sgsA l), (2, yc mi), (3, .ptr 3 0 0 0), (8, yc (prL m l)), (11, .own 11), (12, iv (k : Int))]) (fun k => [(3, .box (mnE m) 23), (11, .row tmE (dvK m l (duM m l mi) k) 83 2)]) l.length (fun k hk => ?_);refine gd ?_ ?_<;>intro u2
  ·obtain ⟨s, hs⟩ : ∃ s, l[k]? = some s := ⟨_, lgg (by omega)⟩;have u1 : l[(k : Int).toNat]? = some s := by simpa using hs
   have v8 := zkj m l (duM m l mi) k;refine gd ?_ ?_<;>intro I
   ·have xT := zki (m := m) (M := duM m l mi) hs I;refine gq ?_;refine yw (k + 1) (hI := yk)
   have Z := zfz V hs I;refine gq ?_;refine yW [13,60,61,62,63,64,65,66,67,68,69] [0,0,0,6,14,30,63,127,255,255,0,1535,4095] mo ?_;(iterate 6 refine yb ?_);refine yH (zH Z.1 Z.2.1 Z.2.2) ?_;(iterate 3 refine yb ?_);refine ChM.step rfl rfl rfl (zu (k := 13) zc83) rfl ?_;refine zbK 9 ⟨[(1, sgsA l), (2, yc mi), (3, .ptr 3 0 0 0), (8, yc (prL m l)), (11, .own 11), (12, iv (k : Int)), (13, .ptr 13 0 0 0)], [(3, .box (mnE m) 23), (11, .row tmE (dvK m l (duM m l mi) k) 83 2), (13, .box (tmE (yp m s.Value)) 83)]⟩ (fun Q hQ => ?_) (fun Q hQ => ?_) ?_
   ·refine xY ?_;refine ya ?_;exact kG yk hQ
   ·refine xY ?_;(iterate 2 refine ya ?_);exact kG yk hQ
   apply k9;refine zb0 ⟨[(1, sgsA l), (2, yc mi), (3, .ptr 3 0 0 0), (8, yc (prL m l)), (11, .own 11), (12, iv (k : Int)), (13, .ptr 13 0 0 0)], [(3, .box (mnE m) 23), (11, .row tmE (dvK m l (duM m l mi) k) 83 2), (13, .box (tmE (bsT m s)) 83)]⟩ (fun T => ?_) ?_
   ·refine gc (zv _) ?_;refine gd ?_ ?_<;>intro x4
    ·have w2 : tmE (durT m s.Value) = tmE (bsT m s) := j5 tmE (ztM x4);refine yW [75,76,77,78,79,80] [0,0,0,6,14,30,63,127] mo ?_;(iterate 6 refine yb ?_);refine yA ?_;refine yM (zc8 m Z.1 s.Value Z.2.1 Z.2.2) ?_;refine xY ?_;apply k9;exact xZ yk T
    ·have w2 : tmE (yp m s.Value) = tmE (bsT m s) := j5 tmE (ztN x4);apply yl;exact xZ yk T
   apply yg;apply ye;refine yh ?_;apply xS;have kZ : tmE (bsT m s) = tmE (refT (prL m l) mi (k : Int) (bsT m s) 0) := j5 tmE (zuU _ _ _ _);refine zq (fun j => [(1, sgsA l), (2, yc mi), (3, .ptr 3 0 0 0), (8, yc (prL m l)), (11, .own 11), (12, iv (k : Int)), (13, .ptr 13 0 0 0), (15, iv (j : Int))]) (fun j => [(3, .box (mnE m) 23), (11, .row tmE (dvK m l (duM m l mi) k) 83 2), (13, .box (tmE (refT (prL m l) mi (k : Int) (bsT m s) j)) 83)]) ((prL m l).length) (fun j hk => ?_);refine gd ?_ ?_<;>intro kY
   ·obtain ⟨x, hx⟩ : ∃ x, (prL m l)[j]? = some x := ⟨_, lgg (by omega)⟩;have kX : (prL m l)[(j : Int).toNat]? = some x := by simpa using hx
    have kW := zo8 hx;obtain ⟨y, U⟩ : ∃ y, mi[j]? = some y := ⟨_, lgg (by omega)⟩;have x1 : mi[(j : Int).toNat]? = some y := by simpa using U
    apply yl;apply yg;(iterate 2 apply xS);apply ye;(iterate 5 refine ya ?_);refine xX 5 ?_;refine ym ?_;(iterate 6 refine xW ?_);refine gf ?_ ?_<;>intro H
    ·have x3 : tmE ⟨3, 2⟩ = tmE (refT (prL m l) mi (k : Int) (bsT m s) (j + 1)) := j5 tmE (zuR hx U H);refine gq ?_;refine yw (j + 1) (hI := yk)
    ·apply ye;(iterate 5 refine ya ?_);refine xX 5 ?_;refine ym ?_;(iterate 7 refine xW ?_);refine gf ?_ ?_<;>intro N
     ·have x3 : tmE ⟨1, 2⟩ = tmE (refT (prL m l) mi (k : Int) (bsT m s) (j + 1)) := j5 tmE (zuS hx U H N);refine gq ?_;refine yw (j + 1) (hI := yk)
     ·have x3 : tmE (refT (prL m l) mi (k : Int) (bsT m s) j) = tmE (refT (prL m l) mi (k : Int) (bsT m s) (j + 1)) := j5 tmE (zuT hx U H N);refine gq ?_;refine yw (j + 1) (hI := yk)
   ·have v9 : j = (prL m l).length := by omega
    subst v9;have xT : dvK m l (duM m l mi) k ++ [refT (prL m l) mi (k : Int) (bsT m s) (prL m l).length] = dvK m l (duM m l mi) (k + 1) := by rw [zjA _ _ _ _ _ (jC _)]; exact zmi hs I
    refine gq ?_;refine yz tmE [⟨_, _⟩] ?_;refine gq ?_;refine yw (k + 1) (hI := yk)
  ·have x2 : k = l.length := by omega
   subst x2;apply k8;apply ye;refine yy ?_;refine xU ?_;refine xQ (xP (k := 11) rfl) ?_;refine yj ?_ ?_;all_goals (first | exact j5 tmsA J | exact j5 (AV.int .i64) hE)
end
section
structure Ite where
 Sign : Int
 Value : Int
 Rest : Bool
 Color : Bool
 Fixed : Bool
 Cut : Int
 Dur : Tm
 Before : Tm
 After : Tm
 deriving DecidableEq
instance : Inhabited Ite := ⟨⟨0, 0, false, false, false, 0, ⟨0, 0⟩, ⟨0, 0⟩, ⟨0, 0⟩⟩⟩
def itE : Ite -> List AV := fun x => [.int .i64 x.Sign, .int .i64 x.Value, .bool x.Rest, .bool x.Color, .bool x.Fixed, .int .i64 x.Cut, .int .i64 x.Dur.N, .int .i64 x.Dur.D, .int .i64 x.Before.N, .int .i64 x.Before.D, .int .i64 x.After.N, .int .i64 x.After.D]
abbrev itA (x : Ite) : AV := .agg (itE x)
abbrev itsA (l : List Ite) : AV := .sl itE l
instance : EncK itE 12 := ⟨fun _ => rfl⟩
def ntN (l : List Sg) : Nat -> Nat
 | 0 => 0
 | k + 1 => match l[k]? with
  | some s => if s.Kind = 3 then ntN l k else ntN l k + 1
  | none => ntN l k
def zAu {l : List Sg} {k : Nat} {s : Sg} (hs : l[k]? = some s) (h : s.Kind = 3) : ntN l (k + 1) = ntN l k := by
 simp_all [ntN]
theorem zuW {l : List Sg} {k : Nat} {s : Sg} (hs : l[k]? = some s) (h : ¬ s.Kind = 3) : ntN l (k + 1) = ntN l k + 1 := by
 simp_all [ntN]
theorem zln (l : List Sg) (k : Nat) : ntN l k <= ntN l (k + 1) /\ ntN l (k + 1) <= ntN l k + 1 := by
 grind [ntN]
def zlo (l : List Sg) : ∀ (n k : Nat), k <= n -> ntN l k <= ntN l n
 | 0, k, h => by simp_all
 | n + 1, k, h => by
  rcases w6 n k with Z | Z
  ·grind
  ·have := zlo l n k Z
   grind [zln]
def zkm (l : List Sg) : ∀ k, ntN l k <= k
 | 0 => jC _
 | k + 1 => by have := zkm l k; grind [zln]
theorem zmk (ch : List Int) (l : List Sg) : ∀ k, (mkK ch l k).1.length = ntN l k
 | 0 => rfl
 | k + 1 => by
  have h := zmk ch l k
  grind [mkK, ntN]
theorem zo9 (m : Mn) (l : List Sg) (M : List (Int × Tm)) : ∀ k, (dvK m l M k).length = ntN l k
 | 0 => rfl
 | k + 1 => by
  have h := zo9 m l M k
  grind [dvK, ntN]
def zm1 {m : Mn} {l : List Sg} {M : List (Int × Tm)} {k : Nat} {s : Sg} (hs : l[k]? = some s) (h : ¬ s.Kind = 3) : ∀ n, k < n -> (dvK m l M n)[ntN l k]? = some ((mget (k : Int) M).getD (bsT m s))
 | 0, Q => by omega
 | n + 1, Q => by
  rcases w6 k n with U | U
  ·have ih := zm1 (m := m) (M := M) hs h n U;have Z : ntN l k < (dvK m l M n).length := (j1.1 ih).1;cases V : l[n]? with
   | none => simp only [dvK, V]; exact ih
   | some z =>
    by_cases T : z.Kind = 3
    ·rw [← zki V T]; exact ih
    ·rw [← zmi V T, uA Z]; exact ih
  grind [zo9, dvK]
def itOf (k : Nat) (s : Sg) (c : Int) (a : Bool) (d : Tm) : Ite :=
 ⟨k, s.Value, decide (s.Kind = 2), clr s, a || decide (s.Kind = 2) || clr s || decide (c = s.Value), c, if a = true then mulV d ⟨3, 2⟩ else d, ⟨0, 1⟩, ⟨0, 1⟩⟩
def itK (l : List Sg) (c : List Int) (a : List Bool) (d : List Tm) : Nat -> List Ite
 | 0 => []
 | k + 1 => match l[k]? with
  | some s => if s.Kind = 3 then itK l c a d k else itK l c a d k ++ [itOf k s (c.getD (ntN l k) 0) (a.getD (ntN l k) false) (d.getD (ntN l k) ⟨0, 0⟩)]
  | none => itK l c a d k
section
variable {l : List Sg} {c : List Int} {a : List Bool} {d : List Tm} {k : Nat} {s : Sg}
def zm2 (hs : l[k]? = some s) (h : s.Kind = 3) : itK l c a d k = itK l c a d (k + 1) := by
 simp_all [itK]
def zpa {x : Int} {y : Bool} {z : Tm} (hs : l[k]? = some s) (h : ¬ s.Kind = 3) (hx : c[ntN l k]? = some x) (Z : a[ntN l k]? = some y) (V : d[ntN l k]? = some z) : itK l c a d k ++ [itOf k s x y z] = itK l c a d (k + 1) := by
 simp_all [itK]
end
def ztU (l : List Sg) (c : List Int) (a : List Bool) (d : List Tm) : [] = itK l c a d 0 := rfl
def zh8 (l : List Sg) (c : List Int) (a : List Bool) (d : List Tm) : ∀ k, (itK l c a d k).length = ntN l k
 | 0 => rfl
 | k + 1 => by
  have h := zh8 l c a d k
  grind [itK, ntN]
def ztV (m : Mn) (v : Int) : Bool := decide (mulE (yp m v) ⟨3, 2⟩ = 0) && decide (mulE (durT m v) ⟨3, 2⟩ = 0)
theorem zow : zgc ztV = true := by kernel_rfl
def zuX {m : Mn} {v : Int} (hm : ckM m = 0) (Z : 1 <= v) (V : v <= 8) : mulE (yp m v) ⟨3, 2⟩ = 0 /\ mulE (durT m v) ⟨3, 2⟩ = 0 := by
 grind [zbQ, zow, ztV]
def zrl {m : Mn} {s : Sg} (hm : ckM m = 0) (Z : 1 <= s.Value) (V : s.Value <= 8) : mulE (bsT m s) ⟨3, 2⟩ = 0 := by
 unfold bsT; split;all_goals simp_all [zuX]
theorem zdI (p mi : List Int) (q : Int) : ∀ k x, mget q (zbL p mi k) = some x -> x = ⟨3, 2⟩ \/ x = ⟨1, 2⟩
 | 0, x, h => by simp [zbL, zo2] at h
 | k + 1, x, h => by
  unfold zbL at h;split at h
  ·rw [zdp, zdp] at h;split at h
   ·simp_all
   ·split at h
    ·simp_all
    ·exact zdI p mi q k x h
  ·exact zdI p mi q k x h
def zpb {m : Mn} {l : List Sg} {mi : List Int} {q : Int} {s : Sg} (hm : ckM m = 0) (Z : 1 <= s.Value) (V : s.Value <= 8) : mulE ((mget q (duM m l mi)).getD (bsT m s)) ⟨3, 2⟩ = 0 := by
 cases h : mget q (duM m l mi) with
 | none => exact zrl hm Z V
 | some x =>
  rcases zdI _ _ _ _ _ h with rfl | rfl
  ·show mulE ⟨3, 2⟩ ⟨3, 2⟩ = 0; decide +kernel
  ·show mulE ⟨1, 2⟩ ⟨3, 2⟩ = 0; decide +kernel
def itmE (m : Mn) (l : List Sg) (ch mi : List Int) : Int := if mkE m l ch = 0 then duE m l mi else mkE m l ch
def itmV (m : Mn) (l : List Sg) (ch mi : List Int) : List Ite := if itmE m l ch mi = 0 then itK l (mkC m l ch) (mkA m l ch) (duV m l mi) l.length else []
theorem zml {m : Mn} {l : List Sg} {ch : List Int} (h : ¬ ckD m l = 0) : mkE m l ch = ckD m l := by unfold mkE; rw [j3 h]
def zpc {m : Mn} {l : List Sg} {ch : List Int} (h : mkE m l ch = 0) : ckD m l = 0 := by
 grind [zml]
def zmm {m : Mn} {l : List Sg} {ch mi : List Int} (h : ¬ mkE m l ch = 0) : itmE m l ch mi = mkE m l ch := by unfold itmE; rw [j3 h]
def zkn {m : Mn} {l : List Sg} {ch mi : List Int} (h : mkE m l ch = 0) : itmE m l ch mi = duE m l mi := by unfold itmE; rw [j4 h]
def zh9 {m : Mn} {l : List Sg} {ch mi : List Int} (h : ¬ itmE m l ch mi = 0) : itmV m l ch mi = [] := by unfold itmV; rw [j3 h]
def zmn {m : Mn} {l : List Sg} {ch mi : List Int} (h : itmE m l ch mi = 0) : itmV m l ch mi = itK l (mkC m l ch) (mkA m l ch) (duV m l mi) l.length := by unfold itmV; rw [j4 h]
def ztW {m : Mn} {l : List Sg} {ch mi : List Int} {k : Nat} {s : Sg} (V : mkE m l ch = 0) (T : duE m l mi = 0) (hs : l[k]? = some s) (h : ¬ s.Kind = 3) :
 ∃ x y z, (mkC m l ch)[ntN l k]? = some x /\ (mkA m l ch)[ntN l k]? = some y /\ (duV m l mi)[ntN l k]? = some z /\ mulE z ⟨3, 2⟩ = 0 /\ ntN l k < ntN l l.length /\ ckM m = 0 /\ 1 <= s.Value /\ s.Value <= 8 /\ (z = bsT m s \/ z = ⟨3, 2⟩ \/ z = ⟨1, 2⟩) := by
 have U : k < l.length := (j1.1 hs).1
 have Z : ntN l k < ntN l l.length := by
  have := zlo l l.length (k + 1) U
  grind [zuW]
 obtain ⟨hm, v1, v8⟩ := zfz (zpc V) hs h;have c1 : (mkC m l ch).length = ntN l l.length := by simp_all [mkC, zmk]
 have c2 : (mkA m l ch).length = ntN l l.length := by grind [mkA, zhJ, zmk]
 refine ⟨_, _, _, lgg (by omega), lgg (by omega), ?_, zpb (l := l) (mi := mi) (q := (k : Int)) (s := s) hm v1 v8, Z, hm, v1, v8, ?_⟩
 ·simp_all [duV, zm1]
 ·cases Q : mget (k : Int) (duM m l mi) <;> grind [duM, zdI]
def zrm {m : Mn} {l : List Sg} (h : ckD m l = 0) {k : Nat} {s : Sg} (hs : l[k]? = some s) (Z : ¬ s.Kind = 3) : s.Kind = 1 \/ s.Kind = 2 := by
 have V : k < l.length := (j1.1 hs).1;have U := (zas (zh5 h) (k + 1) (by omega)).2 k s (by omega) hs;simp_all [sgF]; omega
def zuY {s : Sg} (h : s.Kind = 1 \/ s.Kind = 2) : (s.Color && !decide (s.Kind = 2)) = (decide (s.Kind = 1) && s.Color) := by
 all_goals grind
section
variable {k : Nat} {s : Sg} {x : Int} {y : Bool} {z : Tm}
def itL (k : Nat) (s : Sg) (f : Bool) (x : Int) (z : Tm) : Ite := ⟨k, s.Value, decide (s.Kind = 2), decide (s.Kind = 1) && s.Color, f, x, z, ⟨0, 1⟩, ⟨0, 1⟩⟩
def zwV (Z : s.Kind = 1 \/ s.Kind = 2) : itL k s (decide (s.Kind = 2) || (decide (s.Kind = 1) && s.Color) || y || decide (x = s.Value)) x (if y = true then mulV z ⟨3, 2⟩ else z) = itOf k s x y z := by
 grind [itL, itOf, clr]
def zwW (Z : y = true) : itL k s true x (mulV z ⟨3, 2⟩) = itOf k s x y z := by subst Z; rfl
def zpd (Z : y = false) (h : s.Kind = 2 \/ clr s = true \/ x = s.Value) : itL k s true x z = itOf k s x y z := by
 grind [clr, itOf, itL]
def zwX (Z : y = false) (V : ¬ s.Kind = 2) (U : clr s = false) (T : ¬ x = s.Value) : itL k s false x z = itOf k s x y z := by
 simp_all [clr, itOf, itL]
end
end
end Go.Rse
