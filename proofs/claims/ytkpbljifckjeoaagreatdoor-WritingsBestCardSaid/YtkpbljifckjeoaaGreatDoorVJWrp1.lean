/-
  Plain: writings under more habits; no two are equal; each is read as the beats; the first and the best one; minimal habits.
-/
import Derived.Test.YtkpbljifckjeoaaGreatDoorVJWri8
set_option linter.unusedSimpArgs false
set_option linter.unusedVariables false
namespace Go.Rse
open Go Go.Proofs
def hbL (a b : Hb) : Bool := (!a.Color || b.Color) && (!a.Dots || b.Dots) && (!a.Alter || b.Alter)
theorem zpJ {a b : Hb} : hbL a b = true ↔ (a.Color = true -> b.Color = true) /\ (a.Dots = true -> b.Dots = true) /\ (a.Alter = true -> b.Alter = true) := by
 obtain ⟨a1, a2, a3⟩ := a;obtain ⟨b1, b2, b3⟩ := b;cases a1 <;> cases a2 <;> cases a3 <;> cases b1 <;> cases b2 <;> cases b3 <;> decide
theorem zn0 {a b : Hb} (h : hbL a b = true) : (a.Color = true -> b.Color = true) /\ (a.Dots = true -> b.Dots = true) /\ (a.Alter = true -> b.Alter = true) := zpJ.1 h
theorem zn1 {s : Sp} {a b : Hb} (h : hbL a b = true) (hs : usQ s a = true) : usQ s b = true := by
 obtain ⟨h1, h2, h3⟩ := zn0 h;unfold usQ at *
 split
 ·rename_i c; rw [if_pos c] at hs; exact h1 hs
 ·rename_i c; rw [if_neg c] at hs;split
  ·rename_i c; rw [if_pos c] at hs;rw [Bool.and_eq_true] at hs ⊢; exact ⟨h1 hs.1, h2 hs.2⟩
  ·rename_i c; rw [if_neg c] at hs;split
   ·rename_i c; rw [if_pos c] at hs; exact h2 hs
   ·rename_i c; rw [if_neg c] at hs;split
    ·rename_i c; rw [if_pos c] at hs; exact h3 hs
    ·rfl
theorem zjV {x : Bt} {s : Sp} {a b : Hb} (h : hbL a b = true) (hs : slQ x a s = true) : slQ x b s = true := by
 unfold slQ at *; rw [Bool.and_eq_true] at *; exact ⟨hs.1, zn1 h hs.2⟩
theorem zn2 {α : Type} {p q : Bool} {l : List α} (h : p = true -> q = true) : (if p = true then l else []).Sublist (if q = true then l else []) := by
 cases p
 ·exact List.nil_sublist _
 ·rw [h rfl]; exact List.Sublist.refl _
theorem zjW {α : Type} {L : List α} {p q : α -> Bool} (h : ∀ x, p x = true -> q x = true) (hp : L.any p = true) : L.any q = true := by
 rw [List.any_eq_true] at *
 obtain ⟨x, h1, h2⟩ := hp;exact ⟨x, h1, h x h2⟩
theorem zlH {x : Bt} {a b : Hb} (h : hbL a b = true) (L : List Sp) (v : Int) (c : Bool) : (rkC x a L v c).Sublist (rkC x b L v c) := by
 unfold rkC;refine List.Sublist.append (zn2 (zjW fun s hs => ?_)) (zn2 fun hh => ?_)
 ·simp only [Bool.and_eq_true] at *; exact ⟨⟨⟨zjV h hs.1.1.1, hs.1.1.2⟩, hs.1.2⟩, hs.2⟩
 ·rw [Bool.and_eq_true] at *
  refine ⟨zjW (fun s hs => ?_) hh.1, (zn0 h).2.1 hh.2⟩;simp only [Bool.and_eq_true] at *; exact ⟨⟨zjV h hs.1.1, hs.1.2⟩, hs.2⟩
theorem zlI {x : Bt} {a b : Hb} (h : hbL a b = true) (L : List Sp) : ∀ n, (rkL x a L n).Sublist (rkL x b L n)
 | 0 => List.Sublist.refl _
 | n + 1 => (zlI h L n).append ((zlH h L _ _).append (zlH h L _ _))
theorem zpK {x : Bt} {a b : Hb} (h : hbL a b = true) (m : Mn) : (frV m x a).Sublist (frV m x b) := (zlI h _ 8).map _
theorem zlJ {a b : Hb} (h : hbL a b = true) (m : Mn) : ∀ (l : List Bt), cnP m a l <= cnP m b l
 | [] => Nat.le_refl _
 | x :: l => Nat.mul_le_mul (zpK h m).length_le (zlJ h m l)
theorem zuH (a : Hb) : hbL a (hbM 7) = true := by
 obtain ⟨a1, a2, a3⟩ := a;cases a1 <;> cases a2 <;> cases a3 <;> decide
theorem zn3 {m : Mn} {l : List Bt} (hw : wcE m l = 0) (hl : l.length <= 12) (h : ltQ m l = true) (a : Hb) : wcnE m l a = 0 := by
 unfold ltQ at h;simp only [Bool.and_eq_true, Bool.not_eq_true', decide_eq_true_eq, decide_eq_false_iff_not] at h;have h1 := zlJ (zuH a) m l
 have h2 : cnP m (hbM 7) l <= 4096 := by
  apply Classical.byContradiction; intro hn;refine h.2.1 ?_;unfold wcnE; rw [if_pos hw, if_neg (by omega), if_pos (by omega)]
 unfold wcnE; rw [if_pos hw, if_neg (by omega), if_neg (by omega)]
def FmQ (r : Bool) (x : List Sg) : Prop := ∃ s : Sg, (s.Kind = 1 \/ s.Kind = 2 /\ s.Color = false) /\ decide (s.Kind = 2) = r /\ (x = [s] \/ x = [s, dtS])
theorem zsv (r : Bool) (f : Fo) : FmQ r (foS r f) := by
 unfold foS;cases r <;> cases f.d
 ·exact ⟨_, .inl rfl, rfl, .inl rfl⟩
 ·exact ⟨_, .inl rfl, rfl, .inr rfl⟩
 ·exact ⟨_, .inr ⟨rfl, rfl⟩, rfl, .inl rfl⟩
 ·exact ⟨_, .inr ⟨rfl, rfl⟩, rfl, .inr rfl⟩
theorem zsw {m : Mn} {b : Bt} {h : Hb} {x : List Sg} (hx : x ∈ fmV m b h) : FmQ b.Rest x := by
 unfold fmV at hx;split at hx
 ·obtain ⟨f, -, rfl⟩ := List.mem_map.1 hx; exact zsv _ _
 ·simp at hx
theorem zpL (a b : List Sg) : rsL (a ++ b) = rsL a ++ rsL b := by unfold rsL; rw [List.filter_append, List.map_append]
theorem zsx {r : Bool} {x : List Sg} (h : FmQ r x) : rsL x = [r] := by
 obtain ⟨s, h1, h2, h3⟩ := h;have hk : ¬ s.Kind = 3 := by rcases h1 with h | ⟨h, _⟩ <;> omega
 rcases h3 with rfl | rfl <;> (unfold rsL; simp [hk, h2])
def cqQ (y : List Sg) : Prop := ∀ s ∈ y, s.Color = true -> s.Kind = 1
theorem zsy {a b : List Sg} (h1 : cqQ a) (h2 : cqQ b) : cqQ (a ++ b) := fun s hs => by
 rcases List.mem_append.1 hs with h | h
 ·exact h1 s h
 ·exact h2 s h
theorem zuI {r : Bool} {x : List Sg} (h : FmQ r x) : cqQ x := by
 obtain ⟨s, h1, -, h3⟩ := h
 have hk : s.Color = true -> s.Kind = 1 := by
  rcases h1 with h | ⟨_, h⟩
  ·exact fun _ => h
  ·intro hc; rw [h] at hc; cases hc
 rcases h3 with rfl | rfl
 ·intro y hy hc; rw [List.mem_singleton] at hy; subst hy; exact hk hc
 ·intro y hy hc;rcases List.mem_cons.1 hy with rfl | hy
  ·exact hk hc
  ·rw [List.mem_singleton] at hy; subst hy; cases hc
theorem zrc {y : List Sg} (h : cqQ y) : clN y = coN y := by
 unfold clN coN;congr 1;refine List.filter_congr fun s hs => ?_
 cases hc : s.Color
 ·simp
 ·simp [h s hs hc]
theorem zn4 (m : Mn) (h : Hb) : ∀ (l : List Bt) (r y : List Sg), y ∈ wuL (fmL m l h) r -> rsL y = rsL r ++ l.map (·.Rest) /\ (cqQ r -> cqQ y)
 | [], r, y, hy => by
  have : y = r := List.mem_singleton.1 hy;subst this; simp
 | b :: l, r, y, hy => by
  obtain ⟨x, hx, hy⟩ := List.mem_flatMap.1 (show y ∈ (fmV m b h).flatMap fun x => wuL (fmL m l h) (r ++ x) from hy);obtain ⟨h1, h2⟩ := zn4 m h l (r ++ x) y hy;have hf := zsw hx;refine ⟨?_, fun hr => h2 (zsy hr (zuI hf))⟩;rw [h1, zpL, zsx hf, List.append_assoc]; rfl
theorem zfE {m : Mn} {l : List Bt} {h : Hb} {y : List Sg} (hy : y ∈ wyL m l h) : rsL y = l.map (·.Rest) /\ cqQ y /\ rdE m y = 0 /\ (rdV m y).Durs = durB l := by
 unfold wyL at hy;obtain ⟨h1, h2⟩ := List.mem_filter.1 hy;obtain ⟨h3, h4⟩ := zn4 m h l [] y h1;unfold reQ at h2;simp only [Bool.and_eq_true, decide_eq_true_eq] at h2;exact ⟨by rw [h3]; rfl, h4 (fun s hs => by simp at hs), h2.1, h2.2⟩
theorem zrd {m : Mn} {y : List Sg} (h : rdE m y = 0) : ckD m y = 0 := by
 apply Classical.byContradiction; intro hn; unfold rdE at h; rw [if_neg hn] at h; exact hn h
theorem zre : ∀ (l : List Bt), zbV (durB l) (l.map (·.Rest)) = l
 | [] => rfl
 | b :: l => congrArg (List.cons b) (zre l)
theorem zkH {m : Mn} {l : List Bt} {h : Hb} {y : List Sg} (hy : y ∈ wyL m l h) : bsV m y = l := by
 obtain ⟨h1, -, h3, h4⟩ := zfE hy;unfold bsV; rw [if_pos h3, h1, h4]; exact zre l
theorem zjc (x y : Wg) : wgC x y < 0 ↔ x.n < y.n \/ x.n = y.n /\ x.c < y.c := by
 unfold wgC orV orV orV cmpI
 repeat' split
 all_goals omega
theorem zn5 : ∀ (l : List Wg) (a : Wg), (mwF l a ∈ a :: l) /\ ∀ x ∈ a :: l, ¬ wgC x (mwF l a) < 0
 | [], a => ⟨by simp [mwF], fun x hx => by rw [List.mem_singleton] at hx; subst hx; rw [zjc, show mwF [] x = x from rfl]; omega⟩
 | y :: l, a => by
  have e : mwF (y :: l) a = mwF l (if wgC y a < 0 then y else a) := rfl;rw [e];obtain ⟨h1, h2⟩ := zn5 l (if wgC y a < 0 then y else a);have h3 := h2 _ (List.mem_cons_self ..);refine ⟨?_, fun x hx => ?_⟩
  ·rcases List.mem_cons.1 h1 with h | h
   ·rw [h]; split <;> simp
   ·exact List.mem_cons_of_mem _ (List.mem_cons_of_mem _ h)
  ·have hy : wgC y a < 0 \/ ¬ wgC y a < 0 := by omega
   rcases List.mem_cons.1 hx with rfl | hx
   ·rcases hy with c | c
    ·rw [if_pos c] at h3 ⊢; rw [zjc] at *; omega
    ·rw [if_neg c] at h3 ⊢; exact h3
   ·rcases List.mem_cons.1 hx with rfl | hx
    ·rcases hy with c | c
     ·rw [if_pos c] at h3 ⊢; exact h3
     ·rw [if_neg c] at h3 ⊢; rw [zjc] at *; omega
    ·exact h2 x (List.mem_cons_of_mem _ hx)
theorem zsz {l : List Wg} (hl : 0 < l.length) : mwV l ∈ l /\ ∀ x ∈ l, ¬ wgC x (mwV l) < 0 := by
 cases l with
 | nil => simp at hl
 | cons a l =>
  have : mwV (a :: l) = mwF l a := by
   unfold mwV mwK; rw [List.take_length]; rfl
  rw [this]; exact zn5 l a
theorem zrf {m : Mn} {l : List Bt} {h : Hb} (e : beE m l h = 0) : beV m l h ∈ wyL m l h /\ ∀ x ∈ wyL m l h, (beV m l h).length <= x.length /\ (x.length = (beV m l h).length -> clN (beV m l h) <= clN x) := by
 have hw : wcnE m l h = 0 := by
  apply Classical.byContradiction; intro hn; unfold beE at e; rw [if_neg hn] at e; exact hn e
 have hz : ¬ (wlV m l h).length = 0 := by
  intro hn; unfold beE at e; rw [if_pos hw, if_pos hn] at e; cases e
 have hv : wlV m l h = wyL m l h := by unfold wlV; rw [if_pos hw]
 rw [hv] at hz;have hb : beV m l h = (mwV ((wyL m l h).map wgV)).r := by unfold beV; rw [if_pos e, hv]
 obtain ⟨h1, h2⟩ := zsz (l := (wyL m l h).map wgV) (by rw [List.length_map]; omega);obtain ⟨y, hy, e1⟩ := List.mem_map.1 h1;have hby : beV m l h = y := by rw [hb, ← e1]; rfl
 rw [hby];refine ⟨hy, fun x hx => ?_⟩;have h3 := h2 _ (List.mem_map_of_mem hx);rw [← e1, zjc] at h3;have cx := zrc (zfE hx).2.1;have cy := zrc (zfE hy).2.1;simp only [wgV] at h3;exact ⟨by omega, fun _ => by omega⟩
end Go.Rse
namespace Go.Rse
open Go Go.RowKit
section
variable {P : Program} {C : Ctx} {st : St} {ty : TypeId} {x y : Operand} {xt yt : TypeId} {p q : Int}
end
end Go.Rse
namespace Go.Rse
open Go Go.Proofs
theorem zn6 {m : Mn} {z : List Bt} {b : Hb} (hn : wcnE m z b = 0) : beE m z b = 18 /\ (wlV m z b).length = 0 \/ beE m z b = 0 /\ ¬ (wlV m z b).length = 0 := by
 unfold beE; rw [if_pos hn];by_cases h : (wlV m z b).length = 0
 ·rw [if_pos h]; exact .inl ⟨rfl, h⟩
 ·rw [if_neg h]; exact .inr ⟨rfl, h⟩
theorem zrg {m k : Mn} {z : List Bt} {b : Hb} {y : List Sg} (hy : y ∈ wyL m z b) : unE2 m y k b = beE k z b /\ unV2 m y k b = beV k z b := by
 obtain ⟨-, -, h, -⟩ := zfE hy;unfold unE2 unV2;rw [if_pos h, if_pos h, zkH hy]; exact ⟨rfl, rfl⟩
theorem zuJ {m k : Mn} {z : List Bt} {a b : Hb} {x y : List Sg} (hx : x ∈ wyL m z a) (hy : y ∈ wyL k z b) : skE m x k y = 0 /\ skB m x k y = true := by
 obtain ⟨-, -, h1, -⟩ := zfE hx;obtain ⟨-, -, h2, -⟩ := zfE hy;have e : skE m x k y = 0 := by unfold skE; rw [if_pos (zrd h1)]; exact zrd h2
 refine ⟨e, ?_⟩;unfold skB;rw [if_pos e, zkH hx, zkH hy, decide_eq_true h1, decide_eq_true h2, decide_eq_true rfl]; rfl
end Go.Rse
namespace Go.Rse
open Go Go.Proofs
abbrev T9 : List Tm := [⟨2, 1⟩, ⟨4, 1⟩, ⟨6, 1⟩, ⟨1, 1⟩, ⟨3, 1⟩, ⟨3, 2⟩, ⟨1, 2⟩, ⟨5, 1⟩, ⟨9, 1⟩]
def mzB (x : Int) : Bt := ⟨T9.getD (x % 1048576 % 9).toNat default, decide (x % 1048576 / 9 % 6 = 0)⟩
def mzV (L : List Int) : List Bt := (L.take 4).map mzB
def mzK (L : List Int) (k : Nat) : List Bt := (L.take k).map mzB
theorem zuK {L : List Int} {k : Nat} {x : Int} (h : L[k]? = some x) : mzK L k ++ [mzB x] = mzK L (k + 1) := by
 unfold mzK; rw [List.take_add_one, h]; simp
theorem zlK (L : List Int) (k : Nat) : (mzK L k).length <= k := by unfold mzK; rw [List.length_map, List.length_take]; omega
theorem zuL {L : List Int} {k : Nat} (h1 : k <= L.length) (h2 : k <= 4) (h : ¬ k < L.length \/ ¬ k < 4) : mzK L k = mzV L := by
 unfold mzK mzV;rcases h with h | h
 ·rw [List.take_of_length_le (show L.length <= k by omega), List.take_of_length_le (show L.length <= 4 by omega)]
 ·have : k = 4 := by omega
  rw [this]
theorem zrh {i : Int} (h0 : 0 <= i) (h1 : i < 9) : T9[i.toNat]? = some (T9.getD i.toNat default) := by
 rw [List.getD_eq_getElem?_getD, lgg (show i.toNat < T9.length by show i.toNat < 9; omega)]; rfl
theorem zpM (L : List Int) : (mzV L).length <= 4 := by unfold mzV; rw [List.length_map, List.length_take]; omega
theorem zuM : T9.all (fun t => decide (btC ⟨t, true⟩ = 0) && decide (btC ⟨t, false⟩ = 0)) = true := by kernel_rfl
theorem zn7 {m : Mn} (hm : ckM m = 0) {L : List Int} : wcE m (mzV L) = 0 := by
 unfold wcE; rw [if_pos hm];refine zi7.2 fun b hb => ?_
 unfold mzV at hb;obtain ⟨x, -, rfl⟩ := List.mem_map.1 hb;have hxm : 0 <= x % 1048576 := Int.emod_nonneg _ (by decide);have hti := zrh (i := x % 1048576 % 9) (by omega) (by omega);have h := List.all_eq_true.1 zuM _ (List.mem_of_getElem? hti);rw [Bool.and_eq_true, decide_eq_true_iff, decide_eq_true_iff] at h;unfold mzB;cases decide (x % 1048576 / 9 % 6 = 0)
 ·exact h.2
 ·exact h.1
attribute [local irreducible] Pur yw yy Ex X Fn Imp LeV LeB FnO It yz FnW FnOW FnP FnD
attribute [local irreducible] ltQ mMk mzK mzV
set_option maxHeartbeats 4000000 in
theorem zeE (L : List Int) (n : Int) (hL : L.length <= maxLen) (hr : ∀ x ∈ L, -9223372036854775808 <= x /\ x <= 9223372036854775807) (hn : -9223372036854775808 <= n /\ n <= 9223372036854775807) : Fn Tryz.prog 26 [ye L, iv n] (.tup [mnA (mMk n), btsA (mzV L), .bool (ltQ (mMk n) (mzV L))]) := by
 have hz0 : [] = mzK L 0 := by unfold mzK; rfl
 refine Fn.go Tryz.func26 Tryz.ntmps26 (fun g w d => ?_);refine gq ?_;refine yb (zcx n hn) ?_;refine zD ?_;refine Ex.mo ?_;apply yK;refine yx ?_;iterate 2 apply yn
 refine X.imp (yP btE 76 3 8 30 rfl rfl) ?_;refine gq ?_
 refine yZ (ι := Nat) (fun (k : Nat) => [(0, ye L), (4, .ptr 4 0 0 0), (6, .bool false), (7, .ptr 7 0 0 0), (8, .own 30), (9, iv (k : Int))]) (fun (k : Nat) => [(4, .box [iv 0, iv 0, iv 0, iv 0] 32), (7, .box (mnE (mMk n)) 32), (30, .row btE (mzK L k) 76 3)]) (fun (k : Nat) => k <= L.length /\ k <= 4) (fun (k : Nat) => L.length - k) 0 (fun k hk => ?_) (hJ := by
  exact ⟨by omega, by omega⟩) (h0 := by
  exact yf)
 obtain ⟨hk1, hk2⟩ := hk;apply yn;apply yg;iterate 4 refine ya ?_
 refine ExF.at 4 ?_;refine yC ?_;iterate 2 refine ExF.gi ?_
 refine ym ?_;refine gd ?_ ?_<;>intro hc1
 ·obtain ⟨x, hx⟩ : ∃ x, L[k]? = some x := ⟨_, lgg (by omega)⟩;have hx2 : L[(k : Int).toNat]? = some x := by simpa using hx
  have hxr := hr x (List.mem_of_getElem? hx);have hst := zuK hx;have hlt := zlK L k;have hxm : 0 <= x % 1048576 := Int.emod_nonneg _ (by decide);have hti0 : 0 <= x % 1048576 % 9 := by omega
  have hT9 : T9.length = 9 := rfl;have hti := zrh (i := x % 1048576 % 9) hti0 (by omega);refine gq ?_;refine yb (zbt x 1048576 hxr (by decide)) ?_;refine gq ?_;refine yb (zK 2 1 ⟨2, 1⟩ (by kernel_rfl)) ?_;refine yb (zK 4 1 ⟨4, 1⟩ (by kernel_rfl)) ?_;refine yb (zK 6 1 ⟨6, 1⟩ (by kernel_rfl)) ?_;refine yb (zK 1 1 ⟨1, 1⟩ (by kernel_rfl)) ?_;refine yb (zK 3 1 ⟨3, 1⟩ (by kernel_rfl)) ?_;refine yb (zK 3 2 ⟨3, 2⟩ (by kernel_rfl)) ?_;refine yb (zK 1 2 ⟨1, 2⟩ (by kernel_rfl)) ?_;refine yb (zK 5 1 ⟨5, 1⟩ (by kernel_rfl)) ?_;refine yb (zK 9 1 ⟨9, 1⟩ (by kernel_rfl)) ?_;refine yL tmE T9 ?_;refine gq ?_;refine Ex.stepA (Pur.stepA (zcd rfl rfl hti rfl rfl TyK.h)) rfl rfl ?_;refine gq ?_;refine yL btE [mzB x] ?_;refine gq ?_
  refine yD (k + 1) (hJ := by
   exact ⟨by omega, by omega⟩) (hI := yf)
 ·have hV : mzK L k = mzV L := zuL hk1 hk2 (by omega);apply X.exit;apply yn;refine X.imp (Imp.freeze (k := 30) rfl) ?_;refine X.drawQ [⟨0, 50, mnA (mMk n), []⟩, ⟨1, 51, btsA (mzK L k), []⟩, ⟨2, 52, mnA (mMk n), []⟩, ⟨3, 53, btsA (mzK L k), []⟩] [(4, [3, 2]), (5, [3, 2, 4, 0]), (6, [3, 2, 4, 0, 5, 1]), (7, [5, 3, 2, 1, 0, 6, 4])] (fun j => match j with | 0 => ⟨[(4, .ptr 4 0 0 0), (7, .ptr 7 0 0 0), (8, btsA (mzK L k))], [(4, .box [iv 0, iv 0, iv 0, iv 0] 32), (7, .box (mnE (mMk n)) 32)]⟩ | 1 => ⟨[(4, .ptr 4 0 0 0), (7, .ptr 7 0 0 0), (8, btsA (mzK L k)), (54, .bool (ltQ (mMk n) (mzK L k)))], [(4, .box [iv 0, iv 0, iv 0, iv 0] 32), (7, .box (mnE (mMk n)) 32)]⟩ | 2 => ⟨[(4, .ptr 4 0 0 0), (7, .ptr 7 0 0 0), (8, btsA (mzK L k)), (54, .bool (ltQ (mMk n) (mzK L k)))], [(4, .box (mnE (mMk n)) 32), (7, .box (mnE (mMk n)) 32)]⟩ | 3 => ⟨[(4, .ptr 4 0 0 0), (7, .ptr 7 0 0 0), (8, btsA (mzK L k)), (54, .bool (ltQ (mMk n) (mzK L k))), (5, btsA (mzK L k))], [(4, .box (mnE (mMk n)) 32), (7, .box (mnE (mMk n)) 32)]⟩ | _ => ⟨[(4, .ptr 4 0 0 0), (5, btsA (mzK L k)), (6, .bool (ltQ (mMk n) (mzK L k)))], [(4, .box (mnE (mMk n)) 32), (7, .box (mnE (mMk n)) 32)]⟩) mo (by kernel_rfl) (za7 (yd)) (fun j hj => ?_) (fun j c hc β hβ => ?_) ?_
  ·rcases j with _ | _ | _ | _ | _ | j
   ·exact zg
   ·exact zg
   ·exact zg
   ·exact zg
   ·exact zg
   ·exact absurd (show j + 5 <= 4 from hj) (by omega)
  ·rcases j with _ | _ | _ | _ | j
   ·obtain rfl : (4, [3, 2]) = c := by injection hc
    refine yh rfl (yF (st0 := ⟨[(50, .ifb (β 0) (mnA (mMk n))), (51, .ifb (β 1) (btsA (mzK L k))), (52, mnA (mMk n)), (53, btsA (mzK L k)), (4, .ptr 4 0 0 0), (7, .ptr 7 0 0 0), (8, btsA (mzK L k))], [(4, .box [iv 0, iv 0, iv 0, iv 0] 32), (7, .box (mnE (mMk n)) 32)]⟩) (yA) ?_);refine yy.imp (yp (zcs rfl rfl rfl (LeL.refl _) (zbz (mMk n) (mzK L k) (by have := zlK L k; omega))) rfl rfl) (yA)
   ·obtain rfl : (5, [3, 2, 4, 0]) = c := by injection hc
    refine yh rfl (yF (st0 := ⟨[(50, mnA (mMk n)), (51, .ifb (β 1) (btsA (mzK L k))), (52, mnA (mMk n)), (53, btsA (mzK L k)), (4, .ptr 4 0 0 0), (7, .ptr 7 0 0 0), (8, btsA (mzK L k)), (54, .bool (ltQ (mMk n) (mzK L k)))], [(4, .box [iv 0, iv 0, iv 0, iv 0] 32), (7, .box (mnE (mMk n)) 32)]⟩) (yA) ?_);refine yy.imp (zfY rfl rfl rfl rfl ty32 rfl (leB rfl)) (yA)
   ·obtain rfl : (6, [3, 2, 4, 0, 5, 1]) = c := by injection hc
    refine yh rfl (yF (st0 := ⟨[(50, mnA (mMk n)), (51, btsA (mzK L k)), (52, mnA (mMk n)), (53, btsA (mzK L k)), (4, .ptr 4 0 0 0), (7, .ptr 7 0 0 0), (8, btsA (mzK L k)), (54, .bool (ltQ (mMk n) (mzK L k)))], [(4, .box (mnE (mMk n)) 32), (7, .box (mnE (mMk n)) 32)]⟩) (yA) ?_);refine yy.imp (yp (Pur.stepA y9) rfl rfl) (yA)
   ·obtain rfl : (7, [5, 3, 2, 1, 0, 6, 4]) = c := by injection hc
    refine yh rfl (yF (st0 := ⟨[(50, mnA (mMk n)), (51, btsA (mzK L k)), (52, mnA (mMk n)), (53, btsA (mzK L k)), (4, .ptr 4 0 0 0), (7, .ptr 7 0 0 0), (8, btsA (mzK L k)), (54, .bool (ltQ (mMk n) (mzK L k))), (5, btsA (mzK L k))], [(4, .box (mnE (mMk n)) 32), (7, .box (mnE (mMk n)) 32)]⟩) (yA) ?_);refine yy.imp (yp (Pur.stepA y9) rfl rfl) (yA)
   ·exact absurd hc (by simp)
  refine gq ?_;refine RetQ.ret (.many (by decide) (.cons (.cellA rfl rfl rfl rfl ty32 (LeV.eq ?_)) (.cons (.tmp rfl (LeV.eq ?_)) (.cons (.tmp rfl (LeV.eq ?_)) .nil))));all_goals (first | rfl | exact congrArg (fun y => btsA y) hV | exact congrArg (fun y => AV.bool (ltQ (mMk n) y)) hV)
end Go.Rse
namespace Go.Rse
open Go Go.Proofs
attribute [local irreducible] Pur yw yy Ex X Fn Imp LeV LeB FnO It yz FnW FnOW FnP FnD
attribute [local irreducible] ltQ mMk mzV wlV wyL wcnE wcnV hbM beE beV unE2 unV2 skE skB clN
set_option maxHeartbeats 8000000 in
set_option maxRecDepth 100000 in
theorem C_tactuslaw24_WritingsBest (nums : List Int) (n p y : Int) (hr : ∀ x, x ∈ nums -> -9223372036854775808 <= x /\ x <= 9223372036854775807) (hnl : nums.length <= maxLen) (hn : -9223372036854775808 <= n /\ n <= 9223372036854775807) (hp : -9223372036854775808 <= p /\ p <= 9223372036854775807) (hy : -9223372036854775808 <= y /\ y <= 9223372036854775807) : Fn Tryz.prog 5 [ye nums, iv n, iv p, iv y] (.bool true) := by
 have hmd := zeE nums n hnl hr hn;have hM := zm5 n;have hml := zpM nums;have hmw := zn7 hM (L := nums);have hK := zm5 p;have hkw := zn7 hK (L := nums);have hkd := zcx p hp;have hbd := y4 (y % 8);generalize mMk p = k at hkd hK hkw;generalize mMk n = m at hmd hM hmw;generalize mzV nums = z at hmd hml hmw hkw;generalize hbM (y % 8) = b at hbd;refine Fn.go Tryz.func5 Tryz.ntmps5 (fun g w d => ?_);refine gq ?_;refine yb zbG ?_;refine gq ?_;refine yb hmd ?_;refine gq ?_;refine yb (zbt y 8 hy (by decide)) ?_;refine yb hbd ?_;refine gq ?_;refine yb hkd ?_;refine zD ?_;refine Ex.mo ?_;apply Ex.nil;apply yn;apply yg;iterate 2 refine ya ?_
 refine ExF.at 2 ?_;refine gq ?_;refine ExF.cg (zbz k z (by omega)) ?_;refine ExF.gi ?_;refine ym ?_;refine gd ?_ ?_<;>intro hc1
 ·refine gq ?_;all_goals (first | rfl | (rw [hb18]; rfl) | (rw [hk0]; rfl) | simp)
 obtain ⟨hf1, hf2⟩ := hc1;have hwm := zn3 hmw (by omega) hf1 b;have hwk := zn3 hkw (by omega) hf2 b;have hln : (wyL m z b).length <= 4096 /\ ∀ y ∈ wyL m z b, y.length <= 24 := by have h := zje hwm; rw [show wlV m z b = wyL m z b by unfold wlV; rw [if_pos hwm]] at h; exact h
 have hAl : Fn Tryz.prog 24 [mnA m, btsA z, hbA b] (.tup [zL (wyL m z b), iv 0]) := by have h := zal m z b (by omega); rw [show wlV m z b = wyL m z b by unfold wlV; rw [if_pos hwm], hwm] at h; exact h
 have hbm := zn6 hwm;rw [show wlV m z b = wyL m z b by unfold wlV; rw [if_pos hwm]] at hbm;refine gq ?_;refine yb hAl ?_;refine gq ?_;refine yb (zaE m z b (by omega)) ?_;refine gd ?_ ?_<;>intro hc2
 ·exact absurd rfl hc2
 refine gd ?_ ?_<;>intro hc3
 ·have hb18 : beE m z b = 18 := by rcases hbm with h | h; (exact h.1); (exact absurd (by omega) h.2)
  apply yg;refine ya ?_;refine ExF.at 1 ?_;refine yC ?_;iterate 2 refine ExF.gi ?_
  refine ym ?_;refine gq ?_;all_goals (first | rfl | (rw [hb18]; rfl) | (rw [hk0]; rfl) | simp)
 have hb0 : beE m z b = 0 := by rcases hbm with h | h; (exact absurd h.2 (by omega)); (exact h.1)
 have hZ1 := zrf hb0;obtain ⟨hV, hbst⟩ := hZ1;refine gd ?_ ?_<;>intro hc4
 ·exact absurd hb0 hc4
 apply yr;iterate 2 apply yn
 have hlk : ∀ y ∈ wyL k z b, y.length <= 24 := by have h := (zje hwk).2; rw [show wlV k z b = wyL k z b by unfold wlV; rw [if_pos hwk]] at h; exact h
 have hUn := zbg m (beV m z b) k b (by have := hln.2 _ hV; omega);rw [(zrg hV).1, (zrg hV).2] at hUn;have hVl := hln.2 _ hV;refine gq ?_
 refine yZ (ι := Nat) (fun (i : Nat) => [(9, .bool true), (10, .ptr 10 0 0 0), (11, btsA z), (13, .ptr 13 0 0 0), (14, .ptr 14 0 0 0), (15, zL (wyL m z b)), (17, sgsA (beV m z b)), (19, iv (i : Int))]) (fun (i : Nat) => [(10, .box (mnE m) 32), (13, .box (hbE b) 35), (14, .box (mnE k) 32)]) (fun (i : Nat) => i <= (wyL m z b).length) (fun (i : Nat) => (wyL m z b).length - i) 0 (fun i hk => ?_) (hJ := by
  exact Nat.zero_le _) (h0 := by
  exact yf)
 refine gd ?_ ?_<;>intro hc5
 ·obtain ⟨x, hx⟩ : ∃ x, (wyL m z b)[i]? = some x := ⟨_, lgg (by omega)⟩;have hx2 : (wyL m z b)[(i : Int).toNat]? = some x := by simpa using hx
  have hxm := List.mem_of_getElem? hx;have hxl := hln.2 x hxm;have hbx := hbst x hxm;apply yr;apply yn;apply X.block;apply yg;iterate 8 refine ya ?_
  refine ExF.at 8 ?_;refine gq ?_;refine ExF.cg (zbA x (by omega)) ?_;refine gq ?_;refine ExF.cg (zbA (beV m z b) (by omega)) ?_;iterate 2 refine ExF.gi ?_
  refine ym ?_;refine gd ?_ ?_<;>intro hc6
  ·exact absurd hc6 (by omega)
  refine gq ?_;refine yD (i + 1) (hI := yf)
 ·refine gq ?_;refine yb hUn ?_;refine gd ?_ ?_<;>intro hc7
  ·have hCn : Fn Tryz.prog 23 [mnA k, btsA z, hbA b] (.tup [iv 0, iv 0]) := by have h := zcG k z b (by omega); rw [hwk] at h; rcases zn6 hwk with g | g; (rw [g.2] at h; exact h); (rw [g.1] at hc7; cases hc7)
   refine gq ?_;refine yb hCn ?_;(iterate 5 refine ya ?_);apply yK;refine ya ?_;refine ExF.at 1 ?_;refine yC ?_;(iterate 2 refine ExF.gi ?_);(iterate 2 refine yC ?_);(iterate 2 refine ExF.gi ?_);refine ym ?_;refine gq ?_;all_goals (first | rfl | (rw [hb18]; rfl) | (rw [hk0]; rfl) | simp)
  have hk0 : beE k z b = 0 := by rcases zn6 hwk with g | g; (exact absurd g.1 hc7); (exact g.1)
  have hU := (zrf hk0).1;have hsk := zuJ hV hU;have hUl := hlk _ hU;have hAk : Fn Tryz.prog 22 [mnA m, sgsA (beV m z b), mnA k, sgsA (beV k z b)] (.tup [.bool true, iv 0]) := by have h := zbh m (beV m z b) k (beV k z b) (by omega) (by omega); rw [hsk.1, hsk.2] at h; exact h
  refine gq ?_;refine yb hAk ?_;iterate 5 refine ya ?_
  apply yK;refine ya ?_;refine ExF.at 1 ?_;refine yC ?_;iterate 2 refine ExF.gi ?_
  iterate 2 refine yC ?_
  iterate 2 refine ExF.gi ?_
  iterate 2 refine yC ?_
  refine ExF.gi ?_;refine ym ?_;refine gq ?_;all_goals (first | rfl | (rw [hb18]; rfl) | (rw [hk0]; rfl) | simp)
end Go.Rse
