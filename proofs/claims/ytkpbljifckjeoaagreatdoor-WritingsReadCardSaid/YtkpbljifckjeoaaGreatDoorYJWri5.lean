/-
  Walks.
-/
import Derived.Test.YtkpbljifckjeoaaGreatDoorYJWri8
set_option linter.unusedSimpArgs false
set_option linter.unusedVariables false
namespace Go.Rse
open Go Go.Proofs
section
theorem zsH {α : Type} {enc : α -> List AV} (o : Option (List α)) : (nlA enc o).nm = true := by cases o <;> rfl
theorem zuV {m : Mn} {D : List Tm} {run : List Sg} (h : rdE m run = 0 /\ (rdV m run).Durs = D) : srV m D [] run = some run := by
 unfold srV reQ; rw [if_pos (by simp [h.1, h.2])]
theorem zuW {m : Mn} {D : List Tm} {run : List Sg} (h : ¬ (rdE m run = 0 /\ (rdV m run).Durs = D)) : srV m D [] run = none := by
 unfold srV reQ; rw [if_neg]; intro e; simp only [Bool.and_eq_true, decide_eq_true_eq] at e; exact h e
theorem zp0 {m : Mn} {D : List Tm} {r : List (List (List Sg))} {run : List Sg} {F : List (List Sg)} (h : (F.take F.length).findSome? (fun f => srV m D r (run ++ f)) = none) : srV m D (F :: r) run = none := by
 rw [List.take_length] at h; exact h
theorem zoe {m : Mn} {D : List Tm} {C : List (List (List Sg))} {run : List Sg} (hC : ∀ F ∈ C, F.length <= 32 /\ ∀ f ∈ F, 1 <= f.length /\ f.length <= 2) (h : 0 < run.length + C.length) : ∀ x, srV m D C run = some x -> x ≠ [] := fun x hx e => by
 have := zlU (n := 2) (fun F hF => (hC F hF).2) hx;have h1 := this.1;rw [e] at h1; simp only [List.length_nil] at h1; omega
theorem zxQ {m : Mn} {l : List Bt} {h : Hb} (c : ¬ wcnE m l h = 0) : wrE m l h = wcnE m l h /\ wrV m l h = [] := by
 unfold wrE wrV; rw [if_neg c, if_neg c]; exact ⟨rfl, rfl⟩
theorem zxR {m : Mn} {l : List Bt} {h : Hb} (c : wcnE m l h = 0) (c2 : l.length = 0) : wrE m l h = 0 /\ wrV m l h = [] := by
 have e : l = [] := List.eq_nil_of_length_eq_zero c2;unfold wrE wrV; rw [if_pos c, if_pos c, if_pos e, if_pos e]; exact ⟨rfl, rfl⟩
theorem zxS {m : Mn} {l : List Bt} {h : Hb} (c : wcnE m l h = 0) (c2 : ¬ l.length = 0) : wrE m l h = (if (srV m (durB l) (chV m l h) []).isSome then 0 else 18) /\ wrV m l h = (srV m (durB l) (chV m l h) []).getD [] := by
 have e : ¬ l = [] := fun e => c2 (by rw [e]; rfl)
 unfold wrE wrV wrO; rw [if_pos c, if_pos c, if_neg e, if_neg e]; exact ⟨rfl, rfl⟩
theorem zsI (m : Mn) (l : List Bt) (h : Hb) : ∀ F ∈ chV m l h, F.length <= 32 /\ ∀ f ∈ F, 1 <= f.length /\ f.length <= 2 := fun F hF => ⟨by
 unfold chV at hF;obtain ⟨b, -, rfl⟩ := List.mem_map.1 hF;exact zdY m b h, zoa F hF⟩
theorem zsJ {m : Mn} {l : List Bt} {h : Hb} (c : wcnE m l h = 0) : l.length <= 12 := by
 unfold wcnE at c;split at c
 ·split at c
  ·exact absurd c (by decide)
  ·omega
 ·exact absurd c ‹_›
attribute [local irreducible] Pur yr yw Ex X Fn Imp LeV LeB FnO It yx FnW FnOW FnP FnD
attribute [local irreducible] wcE wcnE wcnV chV durB rdE rdV srV wrE wrV ckD rsL wisE wisB
set_option maxHeartbeats 1000000 in
theorem zkX (m : Mn) (l : List Bt) (r : List Sg) (hl : l.length <= 1000000) (hr : r.length <= 1000) : Fn Tryz.prog 33 [mnA m, btsA l, sgsA r] (.tup [.bool (wisB m l r), iv (wisE m l r)]) := by
 have hz0 : [] = rsL (r.take 0) := by unfold rsL; rfl
 refine Fn.go Tryz.func33 Tryz.ntmps33 (fun g w d => ?_);refine gq ?_;refine yb (zcp m l (by omega)) ?_;refine gd ?_ ?_<;>intro hc1
 ·have hZ1 := zxN (r := r) hc1;obtain ⟨hE, hV⟩ := hZ1;refine gq ?_;refine yi ?_ ?_;all_goals (first | (rw [hV]; done) | (rw [hE]; done) | (rw [hV]; rfl))
 have h0 : wcE m l = 0 := by omega
 refine gq ?_;refine yb (zal m r hr) ?_;refine gd ?_ ?_<;>intro hc2
 ·have hZ2 := zxO h0 hc2;obtain ⟨hE, hV⟩ := hZ2;refine gq ?_;refine yi ?_ ?_;all_goals (first | (rw [hV]; done) | (rw [hE]; done) | (rw [hV]; rfl))
 have hZ3 := zxP h0 (show ckD m r = 0 by omega);obtain ⟨hE, hV⟩ := hZ3;apply yp;apply yg;refine yu ?_;iterate 2 apply yl
 refine X.imp (yL y6 4 1 10 30 rfl rfl) ?_;refine gq ?_
 refine yS (ι := Nat) (fun k => [(1, btsA l), (2, sgsA r), (3, .ptr 3 0 0 0), (10, .own 30), (26, sgsA r), (27, iv (r.length : Int)), (28, iv (k : Int))]) (fun k => [(3, .box (mnE m) 32), (30, .row y6 (rsL (r.take k)) 4 1)]) (fun (k : Nat) => k <= r.length) (fun (k : Nat) => r.length - k) 0 (fun k hk => ?_) (h0 := by exact yd)
 refine gd ?_ ?_<;>intro hc3
 ·obtain ⟨s, hs⟩ : ∃ s, r[k]? = some s := ⟨_, lgg (by omega)⟩;have hs2 : r[(k : Int).toNat]? = some s := by simpa using hs
  have hlt : (rsL (r.take k)).length <= 1000 := Nat.le_trans (zjl _) (by rw [List.length_take]; omega);refine gd ?_ ?_<;>intro hc4
  ·have hst := zkS hs hc4;refine gq ?_;refine yJ y6 [decide (s.Kind = 2)] ?_;refine gq ?_;refine yz (k + 1) (hI := yd)
  ·have hst := zjk hs (by omega);refine gq ?_;refine yz (k + 1) (hI := yd)
 ·obtain rfl : k = r.length := by omega
  have htk : rsL (r.take r.length) = rsL r := by rw [List.take_length]
  apply X.exit;apply yl;refine X.imp (st' := ⟨[(1, btsA l), (2, sgsA r), (3, .ptr 3 0 0 0), (10, .own 30)], [(3, .box (mnE m) 32), (30, .row y6 (rsL r) 4 1)]⟩) yd ?_;refine X.imp (st' := ⟨[(1, btsA l), (2, sgsA r), (3, .ptr 3 0 0 0), (10, zcu (rsL r))], [(3, .box (mnE m) 32)]⟩) ((Imp.freeze (k := 30) rfl).trans ye) ?_;refine gq ?_;refine yb (zX l (rsL r) (by omega)) ?_;refine gq ?_;refine zf [6,7,45,46,47,48,49,50,51,52] [0,1,3,3,3,19,63,127,255,511] mo ?_;iterate 2 refine yc ?_
  iterate 3 refine ChM.gi ?_
  refine ChM.cg (zfi l (by omega)) ?_;refine ChM.cg (zcX m r (durB l) hr) ?_;iterate 3 refine yc ?_
  refine yE ?_;refine gq ?_;refine yi ?_ ?_;all_goals (first | (rw [hV]; done) | (rw [hE]; done) | (rw [hV]; rfl))
set_option maxHeartbeats 2000000 in
theorem zhk (m : Mn) (D : List Tm) (n : Nat) (C : List (List (List Sg))) (run : List Sg) (hn : C.length = n) (hC : ∀ F ∈ C, F.length <= 32 /\ ∀ f ∈ F, 1 <= f.length /\ f.length <= 2) (hr : run.length + 2 * C.length <= 1000) : Fn Tryz.prog 57 [mnA m, tmsA D, chsA C, sgsA run] (nlA sgE (srV m D C run)) := by
 induction n using Nat.strongRecOn generalizing C run
 rename_i n ih;refine Fn.go Tryz.func57 Tryz.ntmps57 (fun g w d => ?_) (hnm := zsH _);refine gd ?_ ?_<;>intro hc1
 ·obtain rfl : C = [] := List.eq_nil_of_length_eq_zero (by omega);refine gq ?_;refine yb (zcX m run D (by omega)) ?_;refine gd ?_ ?_<;>intro hc2
  ·have hV := zuV hc2;refine gq ?_;all_goals (rw [hV]; first | done | rfl)
  have hV := zuW (m := m) (run := run) (D := D) (by rcases hc2 with e | e; exact fun q => e q.1; exact fun q => e q.2);refine gq ?_;all_goals (rw [hV]; first | done | rfl)
 obtain ⟨F, r, rfl⟩ : ∃ F r, C = F :: r := by cases C with | nil => exact absurd rfl hc1 | cons F r => exact ⟨F, r, rfl⟩
 have hF0 : (F :: r)[(0 : Int).toNat]? = some F := rfl;have hCF := hC F (by simp);apply yp;iterate 2 apply yl
 refine zvm 3 1000003 (fun Ad c hAc => ?_);refine gq ?_
 refine yS (ι := Nat) (fun k => [(1, tmsA D), (2, chsA (F :: r)), (3, .val (.slice Ad run.length c)), (4, .ptr 4 0 0 0), (22, zF F), (23, iv (F.length : Int)), (24, iv (k : Int))]) (fun k => [(4, .box (mnE m) 32), (1000003, .hold [.slice Ad run.length c] [sgsA run])]) (fun (k : Nat) => k <= F.length /\ (F.take k).findSome? (fun f => srV m D r (run ++ f)) = none) (fun (k : Nat) => F.length - k) 0 (fun k hk => ?_) (hJ := by exact ⟨by omega, by simp⟩) (h0 := by exact yd)
 obtain ⟨hk1, hk2⟩ := hk;refine gd ?_ ?_<;>intro hc3
 ·obtain ⟨f, hf⟩ : ∃ f, F[k]? = some f := ⟨_, lgg (by omega)⟩;have hf2 : F[(k : Int).toNat]? = some f := by simpa using hf
  have hfl := hCF.2 f (List.mem_of_getElem? hf);have hnn := zoe (m := m) (D := D) (C := r) (run := run ++ f) (fun G hG => hC G (List.mem_cons_of_mem _ hG)) (by rw [List.length_append]; omega);have hrl : run.length + f.length <= 4000000000 := by simp only [List.length_cons] at hr; omega
  refine gq ?_;refine zf [28,29,30,31,32,33,34,35,36,37,38,39] [0,0,0,4,0,0,32,0,128,496,0,2032,4095,8191] mo ?_;iterate 3 refine yc ?_
  first
   | refine ChM.step rfl rfl rfl (Pur.stepA (zI rfl rfl rfl zky ty55 (by omega) (by omega))) rfl ?_
   | refine ChM.step rfl rfl rfl (Pur.stepA (zaa rfl rfl zky ty55 (fun _ => rfl) (by omega) (by omega))) rfl ?_
  iterate 2 refine yc ?_
  refine yc ?_ (hs := by exact zio rfl sl27);refine yc ?_;refine yc ?_ (hs := by exact zio rfl sl27);refine ChM.step rfl rfl rfl (Pur.stepA (zs1 rfl rfl rfl sl27 ty41 hAc)) rfl ?_;refine yc ?_;refine ChM.step rfl rfl rfl (zh1 (k := 39) (kh := 1000003) rfl rfl rfl sl27 ti41 (by decide) (by decide) (fun _ => rfl) hfl.1 hrl) rfl ?_;refine yE ?_;refine Ex.imp (Imp.freeze (k := 39) rfl) ?_;refine yb (ih r.length (by rw [← hn]; simp) r (run ++ f) rfl (fun G hG => hC G (List.mem_cons_of_mem _ hG)) (by simp only [List.length_append, List.length_cons] at *; omega)) ?_;refine ya ?_;apply yI;refine ya ?_;refine zao (zs2 Tryz.underlying27 rfl hnn) rfl ?_;refine gd ?_ ?_<;>intro hc4
  ·have hZ1 := Option.isSome_iff_exists.1 hc4;obtain ⟨x, hx⟩ := hZ1;have hV : srV m D (F :: r) run = srV m D r (run ++ f) := by rw [hx]; exact zn9 (by rw [zrv hf hk2, hx])
   refine gq ?_;all_goals (rw [hV]; first | done | rfl)
  have hst : (F.take (k + 1)).findSome? (fun f => srV m D r (run ++ f)) = none := by rw [zrv hf hk2]; simpa using hc4
  refine gq ?_
  refine yz (k + 1) (hJ := by exact ⟨by omega, hst⟩) (hI := yd)
 ·obtain rfl : k = F.length := by omega
  have hV := zp0 hk2;refine gq ?_;all_goals (rw [hV]; first | done | rfl)
set_option maxHeartbeats 1000000 in
theorem zh0 (m : Mn) (l : List Bt) (h : Hb) (hl : l.length <= 4000000000) : Fn Tryz.prog 35 [mnA m, btsA l, hbA h] (.tup [sgsA (wrV m l h), iv (wrE m l h)]) := by
 have hcl := zlX m l h;have hco := zsI m l h;refine Fn.go Tryz.func35 Tryz.ntmps35 (fun g w d => ?_);refine gq ?_;refine yb (zcq m l h hl) ?_;refine gd ?_ ?_<;>intro hc1
 ·have hZ1 := zxQ hc1;obtain ⟨hE, hV⟩ := hZ1;apply yg;refine zh ?_;refine X.ret ?_;refine RetQ.imp (ye (ts := [(6, sgsA []), (7, iv (wcnE m l h))]) (hs := [])) ?_;refine yi ?_ ?_;all_goals (first | (rw [hV]; done) | (rw [hE]; done) | (rw [hV, hn]; rfl) | (rw [hE, hn]; rfl))
 have h0 : wcnE m l h = 0 := by omega
 have h12 := zsJ h0;refine gd ?_ ?_<;>intro hc2
 ·have hZ2 := zxR h0 (by omega);obtain ⟨hE, hV⟩ := hZ2;apply yg;refine zm ?_;refine X.ret ?_;refine RetQ.imp (ye (ts := [(6, sgsA []), (7, iv 0)]) (hs := [])) ?_;refine yi ?_ ?_;all_goals (first | (rw [hV]; done) | (rw [hE]; done) | (rw [hV, hn]; rfl) | (rw [hE, hn]; rfl))
 have hZ3 := zxS h0 (show ¬ l.length = 0 by omega);obtain ⟨hE, hV⟩ := hZ3;have hnn := zoe (m := m) (D := durB l) (run := []) hco (by rw [hcl]; simp only [List.length_nil]; omega);refine gq ?_;refine zf [10,24,25,26,27,28,29,30,31] [0,0,2,0,0,0,62,127,255] mo ?_;iterate 2 refine yc ?_
 refine yM (zfi l hl) ?_;iterate 3 refine yc ?_
 refine yM (zge m l h (by omega)) ?_;refine ChM.step rfl rfl rfl (zb6 rfl rfl rfl (.cons (LeV.refl _) (.cons (LeV.refl _) (.cons (LeV.refl _) (.cons (LeV.nils _) .nil)))) (zhk m (durB l) _ (chV m l h) [] rfl hco (by rw [hcl]; simp only [List.length_nil]; omega))) rfl ?_;refine yc ?_;refine yE ?_;apply Ex.nil;apply yl;apply yg;refine ya ?_;refine zao (zvn Tryz.underlying27 rfl hnn) rfl ?_;refine gd ?_ ?_<;>intro hc3
 ·have hn : srV m (durB l) (chV m l h) [] = none := by simpa using hc3
  apply yg;refine zm ?_;refine X.ret ?_;refine RetQ.imp (ye (ts := [(6, sgsA []), (7, iv 18)]) (hs := [])) ?_;refine yi ?_ ?_;all_goals (first | (rw [hV]; done) | (rw [hE]; done) | (rw [hV, hn]; rfl) | (rw [hE, hn]; rfl))
 have hZ4 := Option.isSome_iff_exists.1 (show (srV m (durB l) (chV m l h) []).isSome = true by simpa using hc3);obtain ⟨x, hx⟩ := hZ4;refine gq ?_;refine yi ?_ ?_;all_goals (first | (rw [hV, hx]; rfl) | (rw [hE, hx]; rfl))
end
section
def hbL (a b : Hb) : Bool := (!a.Color || b.Color) && (!a.Dots || b.Dots) && (!a.Alter || b.Alter)
theorem zp1 {a b : Hb} : hbL a b = true ↔ (a.Color = true -> b.Color = true) /\ (a.Dots = true -> b.Dots = true) /\ (a.Alter = true -> b.Alter = true) := by
 obtain ⟨a1, a2, a3⟩ := a;obtain ⟨b1, b2, b3⟩ := b;cases a1 <;> cases a2 <;> cases a3 <;> cases b1 <;> cases b2 <;> cases b3 <;> decide
theorem zof {a b : Hb} (h : hbL a b = true) : (a.Color = true -> b.Color = true) /\ (a.Dots = true -> b.Dots = true) /\ (a.Alter = true -> b.Alter = true) := zp1.1 h
theorem zog {s : Sp} {a b : Hb} (h : hbL a b = true) (hs : usQ s a = true) : usQ s b = true := by
 obtain ⟨h1, h2, h3⟩ := zof h;unfold usQ at *
 split
 ·rename_i c; rw [if_pos c] at hs; exact h1 hs
 ·rename_i c; rw [if_neg c] at hs;split
  ·rename_i c; rw [if_pos c] at hs;rw [Bool.and_eq_true] at hs ⊢; exact ⟨h1 hs.1, h2 hs.2⟩
  ·rename_i c; rw [if_neg c] at hs;split
   ·rename_i c; rw [if_pos c] at hs; exact h2 hs
   ·rename_i c; rw [if_neg c] at hs;split
    ·rename_i c; rw [if_pos c] at hs; exact h3 hs
    ·rfl
theorem zj6 {x : Bt} {s : Sp} {a b : Hb} (h : hbL a b = true) (hs : slQ x a s = true) : slQ x b s = true := by
 unfold slQ at *; rw [Bool.and_eq_true] at *; exact ⟨hs.1, zog h hs.2⟩
theorem zoh {α : Type} {p q : Bool} {l : List α} (h : p = true -> q = true) : (if p = true then l else []).Sublist (if q = true then l else []) := by
 cases p
 ·exact List.nil_sublist _
 ·rw [h rfl]; exact List.Sublist.refl _
theorem zj7 {α : Type} {L : List α} {p q : α -> Bool} (h : ∀ x, p x = true -> q x = true) (hp : L.any p = true) : L.any q = true := by
 rw [List.any_eq_true] at *
 obtain ⟨x, h1, h2⟩ := hp;exact ⟨x, h1, h x h2⟩
theorem zl1 {x : Bt} {a b : Hb} (h : hbL a b = true) (L : List Sp) (v : Int) (c : Bool) : (rkC x a L v c).Sublist (rkC x b L v c) := by
 unfold rkC;refine List.Sublist.append (zoh (zj7 fun s hs => ?_)) (zoh fun hh => ?_)
 ·simp only [Bool.and_eq_true] at *; exact ⟨⟨⟨zj6 h hs.1.1.1, hs.1.1.2⟩, hs.1.2⟩, hs.2⟩
 ·rw [Bool.and_eq_true] at *
  refine ⟨zj7 (fun s hs => ?_) hh.1, (zof h).2.1 hh.2⟩;simp only [Bool.and_eq_true] at *; exact ⟨⟨zj6 h hs.1.1, hs.1.2⟩, hs.2⟩
theorem zl2 {x : Bt} {a b : Hb} (h : hbL a b = true) (L : List Sp) : ∀ n, (rkL x a L n).Sublist (rkL x b L n)
 | 0 => List.Sublist.refl _
 | n + 1 => (zl2 h L n).append ((zl1 h L _ _).append (zl1 h L _ _))
theorem zp2 {x : Bt} {a b : Hb} (h : hbL a b = true) (m : Mn) : (frV m x a).Sublist (frV m x b) := (zl2 h _ 8).map _
theorem zl3 {a b : Hb} (h : hbL a b = true) (m : Mn) : ∀ (l : List Bt), cnP m a l <= cnP m b l
 | [] => Nat.le_refl _
 | x :: l => Nat.mul_le_mul (zp2 h m).length_le (zl3 h m l)
theorem zuX (a : Hb) : hbL a (hbM 7) = true := by
 obtain ⟨a1, a2, a3⟩ := a;cases a1 <;> cases a2 <;> cases a3 <;> decide
theorem zsK {m : Mn} {l : List Bt} (hw : wcE m l = 0) (hl : l.length <= 12) (h : ltQ m l = true) (a : Hb) : wcnE m l a = 0 := by
 unfold ltQ at h;simp only [Bool.and_eq_true, Bool.not_eq_true', decide_eq_true_eq, decide_eq_false_iff_not] at h;have h1 := zl3 (zuX a) m l
 have h2 : cnP m (hbM 7) l <= 4096 := by
  apply Classical.byContradiction; intro hn;refine h.2.1 ?_;unfold wcnE; rw [if_pos hw, if_neg (by omega), if_pos (by omega)]
 unfold wcnE; rw [if_pos hw, if_neg (by omega), if_neg (by omega)]
def FmQ (r : Bool) (x : List Sg) : Prop := ∃ s : Sg, (s.Kind = 1 \/ s.Kind = 2 /\ s.Color = false) /\ decide (s.Kind = 2) = r /\ (x = [s] \/ x = [s, dtS])
theorem zsL (r : Bool) (f : Fo) : FmQ r (foS r f) := by
 unfold foS;cases r <;> cases f.d
 ·exact ⟨_, .inl rfl, rfl, .inl rfl⟩
 ·exact ⟨_, .inl rfl, rfl, .inr rfl⟩
 ·exact ⟨_, .inr ⟨rfl, rfl⟩, rfl, .inl rfl⟩
 ·exact ⟨_, .inr ⟨rfl, rfl⟩, rfl, .inr rfl⟩
theorem zoi {m : Mn} {b : Bt} {h : Hb} {x : List Sg} (hx : x ∈ fmV m b h) : FmQ b.Rest x := by
 unfold fmV at hx;split at hx
 ·obtain ⟨f, -, rfl⟩ := List.mem_map.1 hx; exact zsL _ _
 ·simp at hx
theorem zp3 (a b : List Sg) : rsL (a ++ b) = rsL a ++ rsL b := by unfold rsL; rw [List.filter_append, List.map_append]
theorem zsM {r : Bool} {x : List Sg} (h : FmQ r x) : rsL x = [r] := by
 obtain ⟨s, h1, h2, h3⟩ := h;have hk : ¬ s.Kind = 3 := by rcases h1 with h | ⟨h, _⟩ <;> omega
 rcases h3 with rfl | rfl <;> (unfold rsL; simp [hk, h2])
def cqQ (y : List Sg) : Prop := ∀ s ∈ y, s.Color = true -> s.Kind = 1
theorem zsN {a b : List Sg} (h1 : cqQ a) (h2 : cqQ b) : cqQ (a ++ b) := fun s hs => by
 rcases List.mem_append.1 hs with h | h
 ·exact h1 s h
 ·exact h2 s h
theorem zuY {r : Bool} {x : List Sg} (h : FmQ r x) : cqQ x := by
 obtain ⟨s, h1, -, h3⟩ := h
 have hk : s.Color = true -> s.Kind = 1 := by
  rcases h1 with h | ⟨_, h⟩
  ·exact fun _ => h
  ·intro hc; rw [h] at hc; cases hc
 rcases h3 with rfl | rfl
 ·intro y hy hc; rw [List.mem_singleton] at hy; subst hy; exact hk hc
 ·intro y hy hc;rcases List.mem_cons.1 hy with rfl | hy
  ·exact hk hc
  ·rw [List.mem_singleton] at hy; subst hy; cases hc
theorem zoj (m : Mn) (h : Hb) : ∀ (l : List Bt) (r y : List Sg), y ∈ wuL (fmL m l h) r -> rsL y = rsL r ++ l.map (·.Rest) /\ (cqQ r -> cqQ y)
 | [], r, y, hy => by
  have : y = r := List.mem_singleton.1 hy;subst this; simp
 | b :: l, r, y, hy => by
  obtain ⟨x, hx, hy⟩ := List.mem_flatMap.1 (show y ∈ (fmV m b h).flatMap fun x => wuL (fmL m l h) (r ++ x) from hy);obtain ⟨h1, h2⟩ := zoj m h l (r ++ x) y hy;have hf := zoi hx;refine ⟨?_, fun hr => h2 (zsN hr (zuY hf))⟩;rw [h1, zp3, zsM hf, List.append_assoc]; rfl
theorem zkY {m : Mn} {l : List Bt} {h : Hb} {y : List Sg} (hy : y ∈ wyL m l h) : rsL y = l.map (·.Rest) /\ cqQ y /\ rdE m y = 0 /\ (rdV m y).Durs = durB l := by
 unfold wyL at hy;obtain ⟨h1, h2⟩ := List.mem_filter.1 hy;obtain ⟨h3, h4⟩ := zoj m h l [] y h1;unfold reQ at h2;simp only [Bool.and_eq_true, decide_eq_true_eq] at h2;exact ⟨by rw [h3]; rfl, h4 (fun s hs => by simp at hs), h2.1, h2.2⟩
theorem zuZ {m : Mn} {y : List Sg} (h : rdE m y = 0) : ckD m y = 0 := by
 apply Classical.byContradiction; intro hn; unfold rdE at h; rw [if_neg hn] at h; exact hn h
theorem zok {m : Mn} {l : List Bt} {h : Hb} {y : List Sg} (hw : wcE m l = 0) (hy : y ∈ wyL m l h) : wisE m l y = 0 /\ wisB m l y = true := by
 obtain ⟨h1, -, h3, h4⟩ := zkY hy;have e : wisE m l y = 0 := by unfold wisE; rw [if_pos hw]; exact zuZ h3
 refine ⟨e, ?_⟩;unfold wisB reQ;rw [if_pos e, h1, decide_eq_true rfl, decide_eq_true h3, decide_eq_true h4]; rfl
theorem zu0 {m : Mn} {b : Bt} {h : Hb} {f : Fo} (hf : f ∈ frL m b h) (hr : b.Rest = true) : f.c = false := by
 have h1 := zrs.1 hf;unfold fkL at h1;obtain ⟨s, hs, h1⟩ := List.mem_flatMap.1 h1;obtain ⟨v, w, -, -, -, -, rfl⟩ := zkR hs
 have hc : slQ b h (spOf v w) = true -> (spOf v w).Color = false := by
  intro h;unfold slQ at h;rw [Bool.and_eq_true, decide_eq_true_eq, hr] at h;have : (w : Int) = 8 := of_decide_eq_true h.1;show (decide ((w : Int) = 5) || decide ((w : Int) = 6) || decide ((w : Int) = 7)) = false;rw [this]; rfl
 unfold fkS at h1;split at h1
 ·rename_i hq;rcases List.mem_append.1 h1 with h1 | h1
  ·split at h1
   ·simp at h1
   ·rw [List.mem_singleton] at h1; rw [h1]; exact hc hq
  ·split at h1
   ·rw [List.mem_singleton] at h1; rw [h1]; exact hc hq
   ·simp at h1
 ·simp at h1
theorem zp4 {r : Bool} {f g : Fo} (hf : r = true -> f.c = false) (hg : r = true -> g.c = false) (h : foS r f = foS r g) : f = g := by
 obtain ⟨fv, fc, fd⟩ := f;obtain ⟨gv, gc, gd⟩ := g;unfold foS at h;cases r <;> cases fd <;> cases gd <;> simp at h hf hg <;> simp_all
theorem zsO (m : Mn) (b : Bt) (h : Hb) : (frL m b h).Nodup :=
 List.Pairwise.imp (fun {a b} hab e => by subst e; unfold foL at hab; omega) (zkQ b h (allE m b.Dur) 8)
theorem zol {α β : Type} {f : α -> β} : ∀ {l : List α}, (∀ x ∈ l, ∀ y ∈ l, f x = f y -> x = y) -> l.Nodup -> (l.map f).Nodup
 | [], _, _ => List.Pairwise.nil
 | a :: l, h, hn => by
  obtain ⟨h1, h2⟩ := List.nodup_cons.1 hn;rw [List.map_cons, List.nodup_cons];refine ⟨fun hm => ?_, zol (fun x hx y hy => h x (List.mem_cons_of_mem _ hx) y (List.mem_cons_of_mem _ hy)) h2⟩;obtain ⟨y, hy, e⟩ := List.mem_map.1 hm;have := h y (List.mem_cons_of_mem _ hy) a (by simp) e;subst this; exact h1 hy
theorem zsP (m : Mn) (b : Bt) (h : Hb) : (fmV m b h).Nodup := by
 unfold fmV;split
 ·exact zol (fun x hx y hy e => zp4 (zu0 hx) (zu0 hy) e) (zsO m b h)
 ·exact List.nodup_nil
theorem zkZ : ∀ (F : List (List (List Sg))) (r y : List Sg), (∀ f ∈ F, ∀ x ∈ f, ∃ b, FmQ b x) -> y ∈ wuL F r -> ∃ t, y = r ++ t /\ ∀ s ∈ t.head?, ¬ s.Kind = 3
 | [], r, y, _, hy => by
  have : y = r := List.mem_singleton.1 hy;exact ⟨[], by simp [this], by simp⟩
 | f :: F, r, y, hF, hy => by
  obtain ⟨x, hx, hy⟩ := List.mem_flatMap.1 (show y ∈ f.flatMap fun x => wuL F (r ++ x) from hy);obtain ⟨t, ht, -⟩ := zkZ F (r ++ x) y (fun g hg => hF g (List.mem_cons_of_mem _ hg)) hy;obtain ⟨b, s, h1, h2, h3⟩ := hF f (by simp) x hx;have hk : ¬ s.Kind = 3 := by rcases h1 with h | ⟨h, _⟩ <;> omega
  refine ⟨x ++ t, by rw [ht, List.append_assoc], ?_⟩;rcases h3 with rfl | rfl <;> simp [hk]
theorem zsQ {a b : Bool} {x y t u : List Sg} (hx : FmQ a x) (hy : FmQ b y) (ht : ∀ s ∈ t.head?, ¬ s.Kind = 3) (hu : ∀ s ∈ u.head?, ¬ s.Kind = 3) (e : x ++ t = y ++ u) : x = y := by
 obtain ⟨s, h1, h2, h3⟩ := hx;obtain ⟨s', g1, g2, g3⟩ := hy;rcases h3 with rfl | rfl <;> rcases g3 with rfl | rfl
 ·simp at e; rw [e.1]
 ·simp at e;rw [e.2] at ht;exact absurd rfl (ht dtS (by simp))
 ·simp at e;rw [← e.2] at hu;exact absurd rfl (hu dtS (by simp))
 ·simp at e; rw [e.1]
theorem zom : ∀ (F : List (List (List Sg))) (r : List Sg), (∀ f ∈ F, f.Nodup /\ ∀ x ∈ f, ∃ b, FmQ b x) -> (wuL F r).Nodup
 | [], r, _ => by simp [wuL]
 | f :: F, r, hF => by
  have hF2 : ∀ g ∈ F, g.Nodup /\ ∀ x ∈ g, ∃ b, FmQ b x := fun g hg => hF g (List.mem_cons_of_mem _ hg)
  show (f.flatMap fun x => wuL F (r ++ x)).Nodup;unfold List.Nodup;rw [List.pairwise_flatMap];refine ⟨fun x _ => zom F (r ++ x) hF2, List.Pairwise.imp_of_mem ?_ (hF f (by simp)).1⟩;intro x y hx hy hne p hp q hq e;subst e;obtain ⟨a, ha⟩ := (hF f (by simp)).2 x hx;obtain ⟨b, hb⟩ := (hF f (by simp)).2 y hy;obtain ⟨t, h1, h2⟩ := zkZ F (r ++ x) p (fun g hg => (hF2 g hg).2) hp;obtain ⟨u, h3, h4⟩ := zkZ F (r ++ y) p (fun g hg => (hF2 g hg).2) hq;refine hne (zsQ ha hb h2 h4 ?_);rw [h1, List.append_assoc, List.append_assoc] at h3;exact List.append_cancel_left h3
theorem zsR (m : Mn) (l : List Bt) (h : Hb) : (wyL m l h).Nodup := by
 refine List.Pairwise.filter _ (zom _ _ fun f hf => ?_);obtain ⟨b, -, rfl⟩ := List.mem_map.1 hf;exact ⟨zsP m b h, fun x hx => ⟨_, zoi hx⟩⟩
theorem zon (m : Mn) (D : List Tm) : ∀ (F : List (List (List Sg))) (r : List Sg), srV m D F r = ((wuL F r).filter fun x => reQ m x D).head?
 | [], r => by
  show (if reQ m r D then some r else none) = ([r].filter fun x => reQ m x D).head?;cases h : reQ m r D <;> simp [h]
 | f :: F, r => by
  show f.findSome? (fun x => srV m D F (r ++ x)) = ((f.flatMap fun x => wuL F (r ++ x)).filter _).head?;rw [List.filter_flatMap, List.head?_flatMap];congr 1; funext x; exact zon m D F (r ++ x)
theorem zsS {m : Mn} {l : List Bt} (h : wcE m l = 0) {b : Bt} (hb : b ∈ l) : wcE m [b] = 0 := by
 unfold wcE at *
 split at h
 ·rename_i c;rw [if_pos c];exact zfg.2 fun x hx => by rw [List.mem_singleton] at hx; subst hx; exact zfg.1 h x hb
 ·rename_i c; exact absurd h c
theorem zu1 {m : Mn} {l : List Bt} (hw : wcE m l = 0) (h : Hb) : fmL m l h = chV m l h := by
 unfold fmL chV;refine List.map_congr_left fun b hb => ?_
 unfold fmV; rw [if_pos (zsS hw hb)]
theorem zoo {m : Mn} {l : List Bt} (hw : wcE m l = 0) (h : Hb) : wrO m l h = (wyL m l h).head? := by
 unfold wrO wyL; rw [zon, zu1 hw]
end
end Go.Rse
namespace Go.Rse
open Go Go.RowKit
section
variable {P : Program} {C : Ctx} {st : St} {ty : TypeId} {x y : Operand} {xt yt : TypeId} {p q : Int}
end
end Go.Rse
namespace Go.Rse
open Go Go.Proofs
theorem zl4 {m : Mn} (hq : reQ m [] [] = true) (h : Hb) : wyL m [] h = [[]] := by
 show ([[]] : List (List Sg)).filter (fun x => reQ m x (durB [])) = [[]];rw [List.filter_cons_of_pos (by exact hq)]; rfl
theorem zu2 {m : Mn} {z : List Bt} {b : Hb} (hw : wcE m z = 0) (hn : wcnE m z b = 0) (hq : reQ m [] [] = true) (h : (wyL m z b).length = 0) : wrE m z b = 18 := by
 have hz : ¬ z = [] := by
  intro e; subst e; rw [zl4 hq] at h; cases h
 unfold wrE;rw [if_pos hn, if_neg hz, zoo hw, List.eq_nil_of_length_eq_zero h]; rfl
theorem zsT {m : Mn} {z : List Bt} {b : Hb} {u : List Sg} (hw : wcE m z = 0) (hn : wcnE m z b = 0) (hq : reQ m [] [] = true) (h : (wyL m z b)[0]? = some u) : wrE m z b = 0 /\ wrV m z b = u := by
 unfold wrE wrV;rw [if_pos hn, if_pos hn];by_cases hz : z = []
 ·rw [if_pos hz, if_pos hz]; subst hz;rw [zl4 hq] at h;exact ⟨rfl, by simpa using h⟩
 ·rw [if_neg hz, if_neg hz, zoo hw, List.head?_eq_getElem?, h]; exact ⟨rfl, rfl⟩
theorem zu3 {L : List (List Sg)} {i k : Nat} {x u : List Sg} (hn : L.Nodup) (hk : k < i) (hx : L[i]? = some x) (hu : L[k]? = some u) : ¬ x = u := by
 obtain ⟨h1, h2⟩ := List.getElem?_eq_some_iff.1 hx;obtain ⟨h3, h4⟩ := List.getElem?_eq_some_iff.1 hu;have := List.pairwise_iff_getElem.1 hn k i h3 h1 hk;rw [h2, h4] at this;exact fun e => this e.symm
theorem zsU (n : Int) : reQ (mMk n) [] [] = true := by
 have key : ∀ q : Fin 16, reQ (mMk ((q : Nat) : Int)) [] [] = true := by decide +kernel
 have h0 := Int.emod_nonneg n (show (16 : Int) ≠ 0 by decide);have h1 := Int.emod_lt_of_pos n (show (0 : Int) < 16 by decide);have := key ⟨(n % 16).toNat, by omega⟩
 have e : mMk (((n % 16).toNat : Nat) : Int) = mMk n := by
  have e2 : (((n % 16).toNat : Nat) : Int) = n % 16 := by omega
  rw [e2]; unfold mMk; rw [Int.emod_emod_of_dvd n (by decide : (16 : Int) ∣ 16)]
 rw [← e]; exact this
end Go.Rse
