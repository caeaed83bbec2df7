/-
  Walks: search, Write.
-/
import Derived.Test.YtggdlojopkoegaaGreatDoorOJItem3
import Derived.Test.YtggdlojopkoegaaGreatDoorOJRse46
import Derived.Test.YtggdlojopkoegaaGreatDoorOJNeqf
import Derived.Test.YtggdlojopkoegaaGreatDoorOJSlc2
import Derived.Test.YtggdlojopkoegaaGreatDoorOJRef5
set_option linter.unusedSimpArgs false
set_option linter.unusedVariables false
namespace Go.Rse
open Go Go.Proofs
theorem zqq {α : Type} {enc : α -> List AV} (o : Option (List α)) : (nlA enc o).nm = true := by cases o <;> rfl
theorem zr3 {m : Mn} {D : List Tm} {run : List Sg} (h : rdE m run = 0 /\ (rdV m run).Durs = D) : srV m D [] run = some run := by
 unfold srV reQ; rw [if_pos (by simp [h.1, h.2])]
theorem zr4 {m : Mn} {D : List Tm} {run : List Sg} (h : ¬ (rdE m run = 0 /\ (rdV m run).Durs = D)) : srV m D [] run = none := by
 unfold srV reQ; rw [if_neg]; intro e; simp only [Bool.and_eq_true, decide_eq_true_eq] at e; exact h e
theorem znZ {m : Mn} {D : List Tm} {r : List (List (List Sg))} {run : List Sg} {F : List (List Sg)} (h : (F.take F.length).findSome? (fun f => srV m D r (run ++ f)) = none) : srV m D (F :: r) run = none := by
 rw [List.take_length] at h; exact h
theorem zmq {m : Mn} {D : List Tm} {C : List (List (List Sg))} {run : List Sg} (hC : ∀ F ∈ C, F.length <= 32 /\ ∀ f ∈ F, 1 <= f.length /\ f.length <= 2) (h : 0 < run.length + C.length) : ∀ x, srV m D C run = some x -> x ≠ [] := fun x hx e => by
 have := zjZ (n := 2) (fun F hF => (hC F hF).2) hx;have h1 := this.1;rw [e] at h1; simp only [List.length_nil] at h1; omega
theorem zux {m : Mn} {l : List Bt} {h : Hb} (c : ¬ wcnE m l h = 0) : wrE m l h = wcnE m l h /\ wrV m l h = [] := by
 unfold wrE wrV; rw [if_neg c, if_neg c]; exact ⟨rfl, rfl⟩
theorem zuy {m : Mn} {l : List Bt} {h : Hb} (c : wcnE m l h = 0) (c2 : l.length = 0) : wrE m l h = 0 /\ wrV m l h = [] := by
 have e : l = [] := List.eq_nil_of_length_eq_zero c2;unfold wrE wrV; rw [if_pos c, if_pos c, if_pos e, if_pos e]; exact ⟨rfl, rfl⟩
theorem zuz {m : Mn} {l : List Bt} {h : Hb} (c : wcnE m l h = 0) (c2 : ¬ l.length = 0) : wrE m l h = (if (srV m (durB l) (chV m l h) []).isSome then 0 else 18) /\ wrV m l h = (srV m (durB l) (chV m l h) []).getD [] := by
 have e : ¬ l = [] := fun e => c2 (by rw [e]; rfl)
 unfold wrE wrV wrO; rw [if_pos c, if_pos c, if_neg e, if_neg e]; exact ⟨rfl, rfl⟩
theorem zqr (m : Mn) (l : List Bt) (h : Hb) : ∀ F ∈ chV m l h, F.length <= 32 /\ ∀ f ∈ F, 1 <= f.length /\ f.length <= 2 := fun F hF => ⟨by
 unfold chV at hF;obtain ⟨b, -, rfl⟩ := List.mem_map.1 hF;exact zh0 m b h, zlO F hF⟩
theorem zqs {m : Mn} {l : List Bt} {h : Hb} (c : wcnE m l h = 0) : l.length <= 12 := by
 unfold wcnE at c;split at c
 ·split at c
  ·exact absurd c (by decide)
  ·omega
 ·exact absurd c ‹_›
attribute [local irreducible] Pur yz yA Ex X Fn Imp LeV LeB FnO It yE FnW FnOW FnP FnD
attribute [local irreducible] wcE wcnE wcnV chV durB rdE rdV srV wrE wrV ckD rsL wisE wisB
set_option maxHeartbeats 1000000 in
theorem zjC (m : Mn) (l : List Bt) (r : List Sg) (hl : l.length <= 1000000) (hr : r.length <= 1000) : Fn Tryz.prog 34 [mnA m, btsA l, sgsA r] (.tup [.bool (wisB m l r), iv (wisE m l r)]) := by
 have hz0 : [] = rsL (r.take 0) := by unfold rsL; rfl
 refine Fn.go Tryz.func34 Tryz.ntmps34 (fun g w d => ?_);apply yb;refine yD ?_;refine yg ?_;apply yd;apply yb;iterate 2 refine ya ?_
 refine ym (za7 m l (by omega)) ?_;refine ya ?_;apply yj;refine yg ?_;refine yk rfl ?_ ?_<;>intro hc1
 ·have hZ1 := zt0 (r := r) hc1;obtain ⟨hE, hV⟩ := hZ1;apply yb;refine yo ?_;refine X.ret ?_;refine yy ?_ ?_;all_goals (first | (rw [hV]; done) | (rw [hE]; done) | (rw [hV]; rfl))
 have h0 : wcE m l = 0 := by omega
 apply yf;apply yd;apply yb;iterate 2 refine ya ?_
 refine ym (zbb m r hr) ?_;refine ya ?_;apply yj;refine yg ?_;refine yk rfl ?_ ?_<;>intro hc2
 ·have hZ2 := zt1 h0 hc2;obtain ⟨hE, hV⟩ := hZ2;apply yb;refine yo ?_;refine X.ret ?_;refine yy ?_ ?_;all_goals (first | (rw [hV]; done) | (rw [hE]; done) | (rw [hV]; rfl))
 have hZ3 := zt2 h0 (show ckD m r = 0 by omega);obtain ⟨hE, hV⟩ := hZ3;apply yf;apply yb;refine ye ?_;iterate 2 apply yd
 refine X.imp (y9 y7 4 1 10 30 rfl rfl) ?_;apply yc;refine yo ?_;apply X.block
 refine zj (ι := Nat) (fun (k : Nat) => [(1, btsA l), (2, sgsA r), (3, .ptr 3 0 0 0), (10, .own 30), (26, sgsA r), (27, iv (r.length : Int)), (28, iv (k : Int))]) (fun (k : Nat) => [(3, .box (mnE m) 23), (30, .row y7 (rsL (r.take k)) 4 1)]) (fun (k : Nat) => k <= r.length) (fun (k : Nat) => r.length - k) 0 (fun k hk => ?_) (h0 := by
  exact yq)
 apply yb;refine ye ?_;apply yd;refine yk rfl ?_ ?_<;>intro hc3
 ·obtain ⟨s, hs⟩ : ∃ s, r[k]? = some s := ⟨_, lgg (by omega)⟩;have hs2 : r[(k : Int).toNat]? = some s := by simpa using hs
  have hlt : (rsL (r.take k)).length <= 1000 := Nat.le_trans (zne _) (by rw [List.length_take]; omega);apply yf;apply yd;apply X.block;apply yb;iterate 2 refine ya ?_
  refine yC ?_;refine Ex.mo ?_;apply yj;refine yo ?_;refine yk rfl ?_ ?_<;>intro hc4
  ·have hst := zpP hs hc4;apply yc;(iterate 4 refine ya ?_);refine yQ y7 [decide (s.Kind = 2)] ?_;refine Ex.mo ?_;refine ye ?_;apply yc;refine yg ?_;refine yL (k + 1) (hI := yq)
  ·have hst := znd hs (by omega);apply yf;apply yc;refine yg ?_;refine yL (k + 1) (hI := yq)
 ·obtain rfl : k = r.length := by omega
  have htk : rsL (r.take r.length) = rsL r := by rw [List.take_length]
  apply X.exit;apply yd;refine X.imp (st' := ⟨[(1, btsA l), (2, sgsA r), (3, .ptr 3 0 0 0), (10, .own 30)], [(3, .box (mnE m) 23), (30, .row y7 (rsL r) 4 1)]⟩) yq ?_;refine X.imp (st' := ⟨[(1, btsA l), (2, sgsA r), (3, .ptr 3 0 0 0), (10, zb1 (rsL r))], [(3, .box (mnE m) 23)]⟩) ((Imp.freeze (k := 30) rfl).trans yn) ?_;apply yc;iterate 2 refine ya ?_
  refine ym (zR l (rsL r) (by omega)) ?_;refine ye ?_;apply yd;refine zv [6,7,45,46,47,48,49,50,51,52] [0,1,3,3,3,19,63,127,255,511] mo ?_;iterate 2 refine yi ?_
  iterate 3 refine ChM.gi ?_
  refine ChM.cg (zen l (by omega)) ?_;refine ChM.cg (zea m r (durB l) hr) ?_;iterate 3 refine yi ?_
  refine y4 ?_;apply Ex.nil;refine X.ret ?_;refine yy ?_ ?_;all_goals (first | (rw [hV]; done) | (rw [hE]; done) | (rw [hV]; rfl))
set_option maxHeartbeats 2000000 in
theorem zge (m : Mn) (D : List Tm) (n : Nat) (C : List (List (List Sg))) (run : List Sg) (hn : C.length = n) (hC : ∀ F ∈ C, F.length <= 32 /\ ∀ f ∈ F, 1 <= f.length /\ f.length <= 2) (hr : run.length + 2 * C.length <= 1000) : Fn Tryz.prog 107 [mnA m, tmsA D, chsA C, sgsA run] (nlA sgE (srV m D C run)) := by
 induction n using Nat.strongRecOn generalizing C run
 rename_i n ih;refine Fn.go Tryz.func107 Tryz.ntmps107 (fun g w d => ?_) (hnm := zqq _);apply yb;refine yD ?_;refine ye ?_;apply yd;apply yb;refine yo ?_;refine yk rfl ?_ ?_<;>intro hc1
 ·obtain rfl : C = [] := List.eq_nil_of_length_eq_zero (by omega);apply yd;apply yb;iterate 3 refine ya ?_
  refine ym (zea m run D (by omega)) ?_;apply Ex.nil;refine yk rfl ?_ ?_<;>intro hc2
  ·have hV := zr3 hc2;apply yb;refine yg ?_;refine X.ret ?_;refine yh ?_;all_goals (rw [hV]; first | done | rfl)
  have hV := zr4 (m := m) (run := run) (D := D) (by rcases hc2 with e | e; exact fun q => e q.1; exact fun q => e q.2);apply yf;apply yb;refine ye ?_;refine X.ret ?_;refine yh ?_;all_goals (rw [hV]; first | done | rfl)
 obtain ⟨F, r, rfl⟩ : ∃ F r, C = F :: r := by cases C with | nil => exact absurd rfl hc1 | cons F r => exact ⟨F, r, rfl⟩
 have hF0 : (F :: r)[(0 : Int).toNat]? = some F := rfl;have hCF := hC F (by simp);apply yf;iterate 2 apply yd
 refine zrs 3 1000003 (fun Ad c hAc => ?_);apply yc;refine zw ?_;apply X.block
 refine zj (ι := Nat) (fun (k : Nat) => [(1, tmsA D), (2, chsA (F :: r)), (3, .val (.slice Ad run.length c)), (4, .ptr 4 0 0 0), (22, zef F), (23, iv (F.length : Int)), (24, iv (k : Int))]) (fun (k : Nat) => [(4, .box (mnE m) 23), (1000003, .hold [.slice Ad run.length c] [sgsA run])]) (fun (k : Nat) => k <= F.length /\ (F.take k).findSome? (fun f => srV m D r (run ++ f)) = none) (fun (k : Nat) => F.length - k) 0 (fun k hk => ?_) (hJ := by
  exact ⟨by omega, by simp⟩) (h0 := by
  exact yq)
 obtain ⟨hk1, hk2⟩ := hk;apply yb;refine ye ?_;apply yd;refine yk rfl ?_ ?_<;>intro hc3
 ·obtain ⟨f, hf⟩ : ∃ f, F[k]? = some f := ⟨_, lgg (by omega)⟩;have hf2 : F[(k : Int).toNat]? = some f := by simpa using hf
  have hfl := hCF.2 f (List.mem_of_getElem? hf);have hnn := zmq (m := m) (D := D) (C := r) (run := run ++ f) (fun G hG => hC G (List.mem_cons_of_mem _ hG)) (by rw [List.length_append]; omega);have hrl : run.length + f.length <= 4000000000 := by simp only [List.length_cons] at hr; omega
  apply yf;apply yd;apply X.block;apply yb;refine yo ?_;apply yd;refine zv [28,29,30,31,32,33,34,35,36,37,38,39] [0,0,0,4,0,0,32,0,128,496,0,2032,4095,8191] mo ?_;iterate 3 refine yi ?_
  first
   | refine ChM.step rfl rfl rfl (Pur.stepA (zaY rfl rfl rfl zmY ty36 (by omega) (by omega))) rfl ?_
   | refine ChM.step rfl rfl rfl (Pur.stepA (zbR rfl rfl zmY ty36 (fun _ => rfl) (by omega) (by omega))) rfl ?_
  iterate 2 refine yi ?_
  refine yi ?_ (hs := by exact zg5 rfl sl44);refine yi ?_;refine yi ?_ (hs := by exact zg5 rfl sl44);refine ChM.step rfl rfl rfl (Pur.stepA (zpR rfl rfl rfl sl44 ty76 hAc)) rfl ?_;refine yi ?_;refine ChM.step rfl rfl rfl (zgM (k := 39) (kh := 1000003) rfl rfl rfl sl44 ti76 (by decide) (by decide) (fun _ => rfl) hfl.1 hrl) rfl ?_;refine y4 ?_;refine Ex.imp (Imp.freeze (k := 39) rfl) ?_;refine ym (ih r.length (by rw [← hn]; simp) r (run ++ f) rfl (fun G hG => hC G (List.mem_cons_of_mem _ hG)) (by simp only [List.length_append, List.length_cons] at *; omega)) ?_;refine ya ?_;apply yj;refine ya ?_;refine zD (zqf Tryz.underlying44 rfl hnn) rfl ?_;apply Ex.nil;refine yk rfl ?_ ?_<;>intro hc4
  ·have hZ1 := Option.isSome_iff_exists.1 hc4;obtain ⟨x, hx⟩ := hZ1;have hV : srV m D (F :: r) run = srV m D r (run ++ f) := by rw [hx]; exact zlM (by rw [zoZ hf hk2, hx])
   apply yb;refine yg ?_;refine X.ret ?_;refine yh ?_;all_goals (rw [hV]; first | done | rfl)
  have hst : (F.take (k + 1)).findSome? (fun f => srV m D r (run ++ f)) = none := by rw [zoZ hf hk2]; simpa using hc4
  apply yf;apply yc;refine yg ?_
  refine yL (k + 1) (hJ := by
   exact ⟨by omega, hst⟩) (hI := yq)
 ·obtain rfl : k = F.length := by omega
  have hV := znZ hk2;apply X.exit;apply yb;refine ye ?_;refine X.ret ?_;refine yh ?_;all_goals (rw [hV]; first | done | rfl)
set_option maxHeartbeats 1000000 in
theorem zdI (m : Mn) (l : List Bt) (h : Hb) (hl : l.length <= 4000000000) : Fn Tryz.prog 36 [mnA m, btsA l, hbA h] (.tup [sgsA (wrV m l h), iv (wrE m l h)]) := by
 have hcl := zj0 m l h;have hco := zqr m l h;refine Fn.go Tryz.func36 Tryz.ntmps36 (fun g w d => ?_);apply yb;iterate 2 refine yD ?_
 refine yg ?_;apply yd;apply yb;iterate 3 refine ya ?_
 refine ym (zgL m l h hl) ?_;iterate 5 refine ya ?_
 apply yj;refine yg ?_;refine yk rfl ?_ ?_<;>intro hc1
 ·have hZ1 := zux hc1;obtain ⟨hE, hV⟩ := hZ1;apply yb;refine yo ?_;refine X.ret ?_;refine RetQ.imp (yn (ts := [(6, sgsA []), (7, iv (wcnE m l h))]) (hs := [])) ?_;refine yy ?_ ?_;all_goals (first | (rw [hV]; done) | (rw [hE]; done) | (rw [hV, hn]; rfl) | (rw [hE, hn]; rfl))
 have h0 : wcnE m l h = 0 := by omega
 have h12 := zqs h0;apply yf;apply yd;apply yb;refine yo ?_;refine yk rfl ?_ ?_<;>intro hc2
 ·have hZ2 := zuy h0 (by omega);obtain ⟨hE, hV⟩ := hZ2;apply yb;refine yg ?_;refine X.ret ?_;refine RetQ.imp (yn (ts := [(6, sgsA []), (7, iv 0)]) (hs := [])) ?_;refine yy ?_ ?_;all_goals (first | (rw [hV]; done) | (rw [hE]; done) | (rw [hV, hn]; rfl) | (rw [hE, hn]; rfl))
 have hZ3 := zuz h0 (show ¬ l.length = 0 by omega);obtain ⟨hE, hV⟩ := hZ3;have hnn := zmq (m := m) (D := durB l) (run := []) hco (by rw [hcl]; simp only [List.length_nil]; omega);apply yf;apply yd;refine zv [10,24,25,26,27,28,29,30,31] [0,0,2,0,0,0,62,127,255] mo ?_;iterate 2 refine yi ?_
 refine za (zen l hl) ?_;iterate 3 refine yi ?_
 refine za (zfa m l h (by omega)) ?_;refine ChM.step rfl rfl rfl (zcp rfl rfl rfl (.cons (LeV.refl _) (.cons (LeV.refl _) (.cons (LeV.refl _) (.cons (LeV.nils _) .nil)))) (zge m (durB l) _ (chV m l h) [] rfl hco (by rw [hcl]; simp only [List.length_nil]; omega))) rfl ?_;refine yi ?_;refine y4 ?_;apply Ex.nil;apply yd;apply yb;refine ya ?_;refine zD (zrR Tryz.underlying44 rfl hnn) rfl ?_;apply Ex.nil;refine yk rfl ?_ ?_<;>intro hc3
 ·have hn : srV m (durB l) (chV m l h) [] = none := by simpa using hc3
  apply yb;refine yg ?_;refine X.ret ?_;refine RetQ.imp (yn (ts := [(6, sgsA []), (7, iv 18)]) (hs := [])) ?_;refine yy ?_ ?_;all_goals (first | (rw [hV]; done) | (rw [hE]; done) | (rw [hV, hn]; rfl) | (rw [hE, hn]; rfl))
 have hZ4 := Option.isSome_iff_exists.1 (show (srV m (durB l) (chV m l h) []).isSome = true by simpa using hc3);obtain ⟨x, hx⟩ := hZ4;apply yf;apply yb;refine yo ?_;refine X.ret ?_;refine yy ?_ ?_;all_goals (first | (rw [hV, hx]; rfl) | (rw [hE, hx]; rfl))
end Go.Rse
namespace Go.Rse
open Go Go.Proofs
def minL : List Int -> Int -> Int
 | [], a => a
 | x :: r, a => minL r (if x < a then x else a)
def meV (m : Mn) : Int := match perfL m with
 | [] => 3
 | x :: r => minL r x
def meU (m : Mn) : Tm := yR m (meV m)
def whB (u s : Tm) : Bool := decide (whE s u = 0) && decide ((whR s u).N = 0)
def bkE (u : Tm) : Tm -> List Bt -> Int
 | _, [] => 0
 | s, b :: r => if addE s b.Dur = 0 then bkE u (if whB u (addV s b.Dur) then ⟨0, 1⟩ else addV s b.Dur) r else addE s b.Dur
def bkV (u : Tm) : Tm -> List Bt -> List Bt -> List (List Bt)
 | _, k, [] => if k = [] then [] else [k]
 | s, k, b :: r => if whB u (addV s b.Dur) then (k ++ [b]) :: bkV u ⟨0, 1⟩ [] r else bkV u (addV s b.Dur) (k ++ [b]) r
def blE (m : Mn) (l : List Bt) : Int := if wcE m l = 0 then bkE (meU m) ⟨0, 1⟩ l else wcE m l
def blV (m : Mn) (l : List Bt) : List (List Bt) := if blE m l = 0 then bkV (meU m) ⟨0, 1⟩ [] l else []
def btsE : List Bt -> List AV := fun l => [btsA l]
abbrev blsA (L : List (List Bt)) : AV := .sl btsE L
def suK (s : Tm) (l : List Bt) : Nat -> Tm
 | 0 => s
 | k + 1 => addV (suK s l k) (l.getD k default).Dur
theorem zgf {s : Tm} {l : List Bt} {k : Nat} {b : Bt} (h : l[k]? = some b) : suK s l (k + 1) = addV (suK s l k) b.Dur := by
 show addV (suK s l k) (l.getD k default).Dur = _;rw [List.getD_eq_getElem?_getD, h]; rfl
structure BlK (u : Tm) (l : List Bt) (k : Nat) : Prop where
 e : bkE u ⟨0, 1⟩ l = bkE u (suK ⟨0, 1⟩ l k) (l.drop k)
 v : bkV u ⟨0, 1⟩ [] l = bkV u (suK ⟨0, 1⟩ l k) (l.take k) (l.drop k)
theorem zr5 (u : Tm) (l : List Bt) : BlK u l 0 := ⟨rfl, rfl⟩
theorem BlK.err {u : Tm} {l : List Bt} {k : Nat} {b : Bt} (h : BlK u l k) (hb : l[k]? = some b) (he : ¬ addE (suK ⟨0, 1⟩ l k) b.Dur = 0) : bkE u ⟨0, 1⟩ l = addE (suK ⟨0, 1⟩ l k) b.Dur := by
 have h1 := List.getElem?_eq_some_iff.1 hb;rw [h.e, List.drop_eq_getElem_cons h1.1, h1.2];show (if addE (suK ⟨0, 1⟩ l k) b.Dur = 0 then _ else _) = _;rw [if_neg he]
theorem BlK.cut {u : Tm} {l : List Bt} {k : Nat} {b : Bt} (h : BlK u l k) (hb : l[k]? = some b) (he : addE (suK ⟨0, 1⟩ l k) b.Dur = 0) (hw : whB u (suK ⟨0, 1⟩ l (k + 1)) = true) : bkE u ⟨0, 1⟩ l = bkE u ⟨0, 1⟩ (l.drop (k + 1)) /\ bkV u ⟨0, 1⟩ [] l = l.take (k + 1) :: bkV u ⟨0, 1⟩ [] (l.drop (k + 1)) := by
 have h1 := List.getElem?_eq_some_iff.1 hb;rw [zgf hb] at hw;refine ⟨?_, ?_⟩
 ·rw [h.e, List.drop_eq_getElem_cons h1.1, h1.2];show (if addE (suK ⟨0, 1⟩ l k) b.Dur = 0 then bkE u (if whB u (addV (suK ⟨0, 1⟩ l k) b.Dur) then ⟨0, 1⟩ else _) _ else _) = _;rw [if_pos he, if_pos hw]
 ·rw [h.v, List.drop_eq_getElem_cons h1.1, h1.2];show (if whB u (addV (suK ⟨0, 1⟩ l k) b.Dur) then _ else _) = _;rw [if_pos hw, List.take_add_one, hb]; rfl
theorem BlK.s {u : Tm} {l : List Bt} {k : Nat} {b : Bt} (h : BlK u l k) (hb : l[k]? = some b) (he : addE (suK ⟨0, 1⟩ l k) b.Dur = 0) (hw : ¬ whB u (suK ⟨0, 1⟩ l (k + 1)) = true) : BlK u l (k + 1) := by
 have h1 := List.getElem?_eq_some_iff.1 hb;have hw2 := hw;rw [zgf hb] at hw2;refine ⟨?_, ?_⟩
 ·rw [h.e, List.drop_eq_getElem_cons h1.1, h1.2, zgf hb];show (if addE (suK ⟨0, 1⟩ l k) b.Dur = 0 then bkE u (if whB u (addV (suK ⟨0, 1⟩ l k) b.Dur) then _ else _) _ else _) = _;rw [if_pos he, if_neg hw2]
 ·rw [h.v, List.drop_eq_getElem_cons h1.1, h1.2, zgf hb];show (if whB u (addV (suK ⟨0, 1⟩ l k) b.Dur) then _ else _) = _;rw [if_neg hw2, List.take_add_one, hb]; rfl
theorem BlK.fin {u : Tm} {l : List Bt} (h : BlK u l l.length) (hl : 0 < l.length) : bkE u ⟨0, 1⟩ l = 0 /\ bkV u ⟨0, 1⟩ [] l = [l] := by
 have e1 := h.e;have e2 := h.v;rw [List.drop_length] at e1 e2;rw [List.take_length] at e2;refine ⟨e1, ?_⟩;rw [e2];show (if l = [] then [] else [l]) = [l];rw [if_neg (fun e => by rw [e] at hl; simp at hl)]
structure BlO (u : Tm) (l l' : List Bt) (O : List (List Bt)) : Prop where
 e : bkE u ⟨0, 1⟩ l = bkE u ⟨0, 1⟩ l'
 v : bkV u ⟨0, 1⟩ [] l = O ++ bkV u ⟨0, 1⟩ [] l'
 n : O.length + l'.length <= l.length
theorem zr6 (u : Tm) (l : List Bt) : BlO u l l [] := ⟨rfl, rfl, by simp⟩
theorem BlO.cut {u : Tm} {l l' : List Bt} {O : List (List Bt)} {k : Nat} {b : Bt} (h : BlO u l l' O) (hk : BlK u l' k) (hb : l'[k]? = some b) (he : addE (suK ⟨0, 1⟩ l' k) b.Dur = 0) (hw : whB u (suK ⟨0, 1⟩ l' (k + 1)) = true) : BlO u l (l'.drop (k + 1)) (O ++ [l'.take (k + 1)]) := by
 obtain ⟨h1, h2⟩ := hk.cut hb he hw;have hlt := (List.getElem?_eq_some_iff.1 hb).1;have hn := h.n;refine ⟨h.e.trans h1, by rw [h.v, h2]; simp, ?_⟩;simp only [List.length_append, List.length_cons, List.length_nil, List.length_drop]; omega
theorem BlO.last {u : Tm} {l l' : List Bt} {O : List (List Bt)} (h : BlO u l l' O) (hk : BlK u l' l'.length) (hl : 0 < l'.length) : BlO u l [] (O ++ [l']) := by
 obtain ⟨h1, h2⟩ := hk.fin hl;have hn := h.n;refine ⟨h.e.trans h1, by rw [h.v, h2]; simp [bkV], ?_⟩;simp only [List.length_append, List.length_cons, List.length_nil]; omega
theorem zuA {m : Mn} {l : List Bt} (c : ¬ wcE m l = 0) : blE m l = wcE m l /\ blV m l = [] := by
 have e : blE m l = wcE m l := by unfold blE; rw [if_neg c]
 exact ⟨e, by unfold blV; rw [e, if_neg c]⟩
theorem zuB {m : Mn} {l l' : List Bt} {O : List (List Bt)} {k : Nat} {b : Bt} (c : wcE m l = 0) (h : BlO (meU m) l l' O) (hk : BlK (meU m) l' k) (hb : l'[k]? = some b) (he : ¬ addE (suK ⟨0, 1⟩ l' k) b.Dur = 0) : blE m l = addE (suK ⟨0, 1⟩ l' k) b.Dur /\ blV m l = [] := by
 have e : blE m l = addE (suK ⟨0, 1⟩ l' k) b.Dur := by unfold blE; rw [if_pos c, h.e, hk.err hb he]
 exact ⟨e, by unfold blV; rw [e, if_neg he]⟩
theorem zuC {m : Mn} {l : List Bt} {O : List (List Bt)} (c : wcE m l = 0) (h : BlO (meU m) l [] O) : blE m l = 0 /\ blV m l = O := by
 have e : blE m l = 0 := by unfold blE; rw [if_pos c, h.e]; rfl
 exact ⟨e, by unfold blV; rw [if_pos e, h.v]; simp [bkV]⟩
def meQ (m : Mn) (_ : Int) : Bool := decide (1 <= meV m) && decide (meV m <= 4)
theorem zn0 : zg7 meQ = true := by kernel_rfl
end Go.Rse
namespace Go.Rse
open Go Go.Proofs
def mnF (l : List Int) (k : Nat) : Int := minL ((l.take k).drop 1) (l.getD 0 0)
theorem zhg (x : Int) : ∀ (l : List Int) (a : Int), minL (l ++ [x]) a = min (minL l a) x
 | [], a => by
  show (if x < a then x else a) = min a x;rw [Int.min_def];by_cases h : x < a
  ·rw [if_pos h, if_neg (by omega)]
  ·rw [if_neg h, if_pos (by omega)]
 | y :: r, a => by show minL (r ++ [x]) _ = min (minL r _) x; rw [zhg x r]
theorem zr7 (l : List Int) : l.getD 0 0 = mnF l 1 := by
 unfold mnF;cases l <;> simp [minL]
theorem zr8 {l : List Int} {k : Nat} {x : Int} (hk : 1 <= k) (h : l[k]? = some x) : min (mnF l k) x = mnF l (k + 1) := by
 unfold mnF;rw [List.take_add_one, h]
 have : ((l.take k) ++ (some x).toList).drop 1 = (l.take k).drop 1 ++ [x] := by
  rw [List.drop_append_of_le_length (by have := (List.getElem?_eq_some_iff.1 h).1; rw [List.length_take]; omega)]; rfl
 rw [this, zhg]
theorem zqt {m : Mn} (h : 0 < (perfL m).length) : mnF (perfL m) (perfL m).length = meV m := by
 unfold mnF meV;rw [List.take_length];cases hp : perfL m with
 | nil => rw [hp] at h; simp at h
 | cons x r => simp
theorem zqu {m : Mn} (h : (perfL m).length = 0) : meV m = 3 := by
 unfold meV; rw [List.eq_nil_of_length_eq_zero h]
theorem zmr {m : Mn} (h : ckM m = 0) : 1 <= meV m /\ meV m <= 4 := by
 have := zdg zn0 h (v := 1) (by decide) (by decide);unfold meQ at this;simpa using this
attribute [local irreducible] Pur yz yA Ex X Fn Imp LeV LeB FnO It yE FnW FnOW FnP FnD
attribute [local irreducible] wcE ckM perfL meV yR mnF addV addE whE whR whQ bkE bkV blE blV suK
theorem zcQ (l : List Int) (hl : l.length <= 4000000000) (h0 : 0 < l.length) : Fn Tryz.prog 162 [yl l] (iv (mnF l l.length)) := by
 have hq1 := zr7 l;obtain ⟨x0, hx0⟩ : ∃ x, l[0]? = some x := ⟨_, lgg h0⟩;have hx1 : l[(0 : Int).toNat]? = some x0 := hx0;have hx2 : x0 = mnF l 1 := by rw [← hq1, List.getD_eq_getElem?_getD, hx0]; rfl
 refine Fn.go Tryz.func162 Tryz.ntmps162 (fun g w d => ?_);apply yb;refine ye ?_;apply yd;apply yb;refine yo ?_;refine yk rfl ?_ ?_<;>intro hc1
 ·omega
 apply yf;apply yb;refine z6 ?_;apply yd;apply yb;refine ye ?_;apply X.block
 refine zj (ι := Nat) (fun (k : Nat) => [(0, yl l), (3, iv (mnF l k)), (4, iv (k : Int))]) (fun (k : Nat) => []) (fun (k : Nat) => 1 <= k /\ k <= l.length) (fun (k : Nat) => l.length - k) 1 (fun k hk => ?_) (hJ := by
  exact ⟨by omega, by omega⟩) (h0 := by
  exact yq)
 obtain ⟨hk1, hk2⟩ := hk;apply yd;apply yb;refine z6 ?_;refine yk rfl ?_ ?_<;>intro hc2
 ·obtain ⟨x, hx⟩ : ∃ x, l[k]? = some x := ⟨_, lgg (by omega)⟩;have hxx : l[(k : Int).toNat]? = some x := by simpa using hx
  have hst := zr8 hk1 hx;apply yf;apply yd;apply X.block;apply yc;iterate 5 refine ya ?_
  refine zD (zsl rfl rfl) rfl ?_;refine ye ?_;apply yc;refine yo ?_
  refine yL (k + 1) (hJ := by
   exact ⟨by omega, by omega⟩) (hI := yq)
 ·obtain rfl : k = l.length := by omega
  apply X.exit;apply yb;refine yg ?_;refine X.ret ?_;refine yh ?_;all_goals (first | rfl | (simp_all; done))
theorem zfh (m : Mn) (hm : ckM m = 0) : Fn Tryz.prog 116 [mnA m] (tmA (meU m)) := by
 have hrg := zmr hm;have hpl := zj3 m;have hL := zbV m;rw [if_pos hm, hm] at hL;refine Fn.go Tryz.func116 Tryz.ntmps116 (fun g w d => ?_);apply yb;refine yD ?_;refine yC ?_;apply yj;refine ya ?_;refine ym hL ?_;iterate 5 refine ya ?_
 apply yj;refine ye ?_;apply yd;apply yb;refine yo ?_;refine yk rfl ?_ ?_<;>intro hc1
 ·have hMin := zcQ (perfL m) (by omega) (by omega);rw [zqt (m := m) (by omega)] at hMin;apply yc;refine ya ?_;refine ym hMin ?_;refine ya ?_;apply yj;iterate 2 refine ya ?_
  refine ym (zaj hm hrg.1 (by omega)) ?_;iterate 3 refine ya ?_
  refine yC ?_;refine Ex.mo ?_;refine ya ?_;apply yj;refine ya ?_;refine Ex.mo ?_;apply Ex.nil;refine X.ret ?_;refine RetQ.ret (.one (.cellA rfl rfl rfl rfl ty40 (LeV.eq ?_)));all_goals (first | rfl | (unfold meU; rw [hV]; rfl))
 ·have hV := zqu (m := m) (by omega);apply yf;apply yb;iterate 2 refine ya ?_
  refine ym (zaj hm (v := 3) (by decide) (by decide)) ?_;iterate 3 refine ya ?_
  refine yC ?_;refine Ex.mo ?_;refine ya ?_;apply yj;refine ya ?_;refine Ex.mo ?_;apply Ex.nil;refine X.ret ?_;refine RetQ.ret (.one (.cellA rfl rfl rfl rfl ty40 (LeV.eq ?_)));all_goals (first | rfl | (unfold meU; rw [hV]; rfl))
theorem zM (l : List Bt) (hl : l.length <= 4000000000) : Fn Tryz.prog 119 [btsA l] (btsA l) := by
 refine Fn.go Tryz.func119 Tryz.ntmps119 (fun g w d => ?_);apply yb;refine ye ?_;apply yd;apply yb;refine ya ?_;refine zqg (fun bn hbn => ?_) Tryz.underlying24;apply Ex.nil;refine yk rfl ?_ ?_<;>intro hc1
 ·have hl0 : l = [] := by
   cases l with
   | nil => rfl
   | cons x r => rw [hbn (by simp)] at hc1; cases hc1
  apply yb;refine ye ?_;refine X.ret ?_;refine RetQ.imp (yn (ts := [(2, btsA [])]) (hs := [])) ?_;refine yh ?_;all_goals (first | exact congrArg (fun z => btsA z) hl0.symm | rfl)
 apply yf;apply yb;refine yQ btE [] ?_;refine ya ?_;refine Ex.mo ?_;refine ye ?_;refine X.ret ?_;refine RetQ.imp (Imp.freeze (k := 5) rfl) ?_;refine yh ?_;all_goals (first | exact congrArg (fun z => btsA z) hl0.symm | rfl)
set_option maxHeartbeats 2000000 in
theorem zcR (m : Mn) (l : List Bt) (hl : l.length <= 1000000) : Fn Tryz.prog 52 [mnA m, btsA l] (.tup [blsA (blV m l), iv (blE m l)]) := by
 refine Fn.go Tryz.func52 Tryz.ntmps52 (fun g w d => ?_);apply yb;refine yD ?_;refine yg ?_;refine X.scope ?_;apply yd;apply yb;iterate 2 refine ya ?_
 refine ym (za7 m l (by omega)) ?_;refine ya ?_;apply yj;refine yg ?_;refine yk rfl ?_ ?_<;>intro hc1
 ·have hZ1 := zuA hc1;obtain ⟨hE, hV⟩ := hZ1;apply yb;refine yo ?_;refine X.ret ?_;refine RetQ.imp (yn (ts := [(4, blsA []), (5, iv (wcE m l))]) (hs := [])) ?_;refine yy ?_ ?_;all_goals (first | (rw [hV]; done) | (rw [hE]; done) | (rw [hV]; rfl) | (rw [hE]; rfl))
 have h0 : wcE m l = 0 := by omega
 have hm : ckM m = 0 := by
  apply Classical.byContradiction; intro h; rw [zrW h] at h0; exact h h0
 apply yf;apply yb;refine ya ?_;refine ym (zfh m hm) ?_;refine yC ?_;refine Ex.mo ?_;apply yj;refine ye ?_;apply yd;refine X.label ?_;apply yd;apply X.block;refine X.imp (y9 btsE 24 1 8 30 rfl rfl) ?_
 refine zj (ι := List Bt × List (List Bt)) (fun (q : List Bt × List (List Bt)) => [(1, btsA q.1), (7, .ptr 7 0 0 0), (8, .own 30)]) (fun (q : List Bt × List (List Bt)) => [(7, .box (tmE (meU m)) 40), (30, .row btsE q.2 24 1)]) (fun (q : List Bt × List (List Bt)) => BlO (meU m) l q.1 q.2) (fun (q : List Bt × List (List Bt)) => q.1.length) (l, []) (fun q hk => ?_) (hJ := by
  exact zr6 _ _) (h0 := by
  exact yq)
 have hq := hk;have hqn := hq.n;apply yd;apply yb;refine yo ?_;refine yk rfl ?_ ?_<;>intro hc2
 ·have hq0 : 0 < q.1.length := by omega
  have hs0 : tmE (suK ⟨0, 1⟩ q.1 0) = [iv 0, iv 1] := by unfold suK; rfl
  have hs1 := hs0.symm;apply yf;apply X.block;apply yb;refine ya ?_;refine yC ?_;refine Ex.mo ?_;apply Ex.nil;apply yd;apply yb;refine yo ?_;apply X.block
  refine zj (ι := Nat) (fun (k : Nat) => [(1, btsA q.1), (7, .ptr 7 0 0 0), (8, .own 30), (9, .ptr 9 0 0 0), (28, btsA q.1), (29, iv (q.1.length : Int)), (30, iv (k : Int))]) (fun (k : Nat) => [(7, .box (tmE (meU m)) 40), (9, .box (tmE (suK ⟨0, 1⟩ q.1 k)) 40), (30, .row btsE q.2 24 1)]) (fun (k : Nat) => k <= q.1.length /\ BlK (meU m) q.1 k) (fun (k : Nat) => q.1.length - k) 0 (fun k hk => ?_) (hJ := by
   exact ⟨by omega, zr5 _ _⟩) (h0 := by
   exact yq)
  obtain ⟨hk1, hk2⟩ := hk;apply yb;refine ye ?_;apply yd;refine yk rfl ?_ ?_<;>intro hc3
  ·obtain ⟨b, hb⟩ : ∃ b, q.1[k]? = some b := ⟨_, lgg (by omega)⟩;have hb2 : q.1[(k : Int).toNat]? = some b := by simpa using hb
   have hsk : tmE (addV (suK ⟨0, 1⟩ q.1 k) b.Dur) = tmE (suK ⟨0, 1⟩ q.1 (k + 1)) := by rw [zgf hb]
   apply yf;apply yd;apply X.block;apply yb;(iterate 3 refine ya ?_);refine yC ?_;refine ya ?_;refine Ex.mo ?_;apply yj;refine ye ?_;apply yd;apply yb;(iterate 3 refine ya ?_);refine ym (zaz (suK ⟨0, 1⟩ q.1 k) b.Dur) ?_;(iterate 3 refine ya ?_);refine Ex.mo ?_;refine ya ?_;apply yj;refine yg ?_;refine yk rfl ?_ ?_<;>intro hc4
   ·have hZ2 := zuB h0 hq hk2 hb hc4;obtain ⟨hE, hV⟩ := hZ2;apply yb;refine yo ?_;refine X.ret ?_;refine RetQ.imp (yn (ts := [(4, blsA []), (5, iv (addE (suK ⟨0, 1⟩ q.1 k) b.Dur))]) (hs := [])) ?_;refine yy ?_ ?_;all_goals (first | (rw [hV]; done) | (rw [hE]; done) | (rw [hV]; rfl) | (rw [hE]; rfl))
   have he : addE (suK ⟨0, 1⟩ q.1 k) b.Dur = 0 := by omega
   apply yf;apply yb;(iterate 2 refine ya ?_);refine ym (zh3 (addV (suK ⟨0, 1⟩ q.1 k) b.Dur) (meU m)) ?_;(iterate 4 refine ya ?_);refine yC ?_;refine ya ?_;refine Ex.mo ?_;refine ya ?_;apply yj;(iterate 2 refine ya ?_);refine ExF.at 2 ?_;refine yO ?_;(iterate 3 refine ExF.gi ?_);refine yF ?_;refine ye ?_;refine yk rfl ?_ ?_<;>intro hc5
   ·have hw : whB (meU m) (suK ⟨0, 1⟩ q.1 (k + 1)) = true := by unfold whB; rw [zgf hb]; simp [hc5.1, hc5.2]
    have ht1 : q.1.drop ((k : Int) + 1).toNat = q.1.drop (k + 1) := by rw [show ((k : Int) + 1).toNat = k + 1 by omega]
    have ht2 : q.2 ++ [q.1.take ((k : Int) + 1).toNat] = q.2 ++ [q.1.take (k + 1)] := by rw [show ((k : Int) + 1).toNat = k + 1 by omega]
    apply yb;iterate 4 refine ya ?_
    first
     | refine zD (zcs rfl rfl rfl sl24 ty42 (by omega) (by omega)) rfl ?_
     | refine zD (zc9 rfl rfl sl24 ty42 (fun _ => rfl) (by omega) (by omega)) rfl ?_
    refine ym (zM (q.1.take ((k : Int) + 1).toNat) (by rw [List.length_take]; omega)) ?_;refine yQ btsE [q.1.take ((k : Int) + 1).toNat] ?_;refine Ex.mo ?_;refine ya ?_;apply yj;iterate 3 refine ya ?_
    first
     | refine zD (zaY rfl rfl rfl sl24 ty42 (by omega) (by omega)) rfl ?_
     | refine zD (zbR rfl rfl sl24 ty42 (fun _ => rfl) (by omega) (by omega)) rfl ?_
    refine ye ?_;apply X.exit;refine yL (q.1.drop (k + 1), q.2 ++ [q.1.take (k + 1)]) (hJ := hq.cut hk2 hb he hw) (hm := by have := (List.getElem?_eq_some_iff.1 hb).1; show (q.1.drop (k + 1)).length < q.1.length; rw [List.length_drop]; omega) (hI := yq)
   have hw : ¬ whB (meU m) (suK ⟨0, 1⟩ q.1 (k + 1)) = true := by
    intro e; unfold whB at e; rw [zgf hb] at e; simp only [Bool.and_eq_true, decide_eq_true_eq] at e;rcases hc5 with h | h
    ·exact h e.1
    ·exact h e.2
   apply yf;apply yc;refine yg ?_
   refine yL (k + 1) (hJ := by
    exact ⟨by omega, hk2.s hb he hw⟩) (hI := yq)
  ·obtain rfl : k = q.1.length := by omega
   apply X.exit;apply yb;(iterate 2 refine ya ?_);refine ym (zM q.1 (by omega)) ?_;refine yQ btsE [q.1] ?_;refine Ex.mo ?_;refine ye ?_;apply yc;refine ye ?_;refine yL ([], q.2 ++ [q.1]) (hJ := hq.last hk2 hq0) (hm := by show 0 < q.1.length; exact hq0) (hI := yq)
 ·have hq0 : q.1 = [] := List.eq_nil_of_length_eq_zero (by omega);have hO : BlO (meU m) l [] q.2 := hq0 ▸ hq;have hZ3 := zuC h0 hO;obtain ⟨hE, hV⟩ := hZ3;apply X.exit;apply yb;refine yo ?_;refine X.ret ?_;refine RetQ.imp (Imp.freeze (k := 30) rfl) ?_;refine yy ?_ ?_;all_goals (first | (rw [hV]; done) | (rw [hE]; done) | (rw [hV]; rfl) | (rw [hE]; rfl))
end Go.Rse
