/-
  Plain: what another meaning changes: items by their signs, pairs by their items.
-/
import Derived.Test.YtbilklnipfabpaaGreatDoorEJItF0
import Derived.Test.YtbilklnipfabpaaGreatDoorEJLvl16
set_option linter.unusedSimpArgs false
set_option linter.unusedVariables false
namespace Go.Rse
open Go Go.Proofs
theorem zsl {l : List Sg} {k j : Nat} {s t : Sg} (hs : l[k]? = some s) (h : ¬ s.Kind = 3) (ht : l[j]? = some t) (h' : ¬ t.Kind = 3) (e : ntN l k = ntN l j) : k = j := by
 rcases Nat.lt_trichotomy k j with h1 | h1 | h1
 ·have := zdC hs h h1; omega
 ·exact h1
 ·have := zdC ht h' h1; omega
def iTM (m : Mn) (l : List Sg) (ch mi : List Int) (k : Nat) (s : Sg) : Ite := itOf k s (zQ ch l l.length k).1 (zQ ch l l.length k).2 ((mget (k : Int) (duM m l mi)).getD (bsT m s))
abbrev zcy (l : List Sg) : Prop := ∀ (i : Nat) z, l[i]? = some z -> z.Kind = 3 -> ∃ (j : Nat) (p : Sg), i = j + 1 /\ l[j]? = some p /\ ¬ p.Kind = 3
theorem itm_len {m : Mn} {l : List Sg} {ch mi : List Int} (h1 : mkE m l ch = 0) (h2 : duE m l mi = 0) : (itmV m l ch mi).length = ntN l l.length := by
 rw [zgN (by unfold itmE; rw [if_pos h1, h2]), zgL]
theorem zno {m : Mn} {l : List Sg} {ch mi : List Int} (h1 : mkE m l ch = 0) (h2 : duE m l mi = 0) (hD : zcy l) {k : Nat} {s : Sg} (hs : l[k]? = some s) (h3 : ¬ s.Kind = 3) : (itmV m l ch mi)[ntN l k]? = some (iTM m l ch mi k s) := by
 have hk := (List.getElem?_eq_some_iff.1 hs).1;have hlt := zdC hs h3 hk;obtain ⟨x, hx⟩ : ∃ x, (itmV m l ch mi)[ntN l k]? = some x := ⟨_, lgg (by rw [itm_len h1 h2]; exact hlt)⟩;have hx' := hx;rw [zgN (by unfold itmE; rw [if_pos h1, h2])] at hx;obtain ⟨j, t, hj, ht, h4, hn, rfl⟩ := zfh l.length hx;obtain rfl := zsl ht h4 hs h3 hn;rw [hs] at ht; injection ht with ht; subst ht;rw [hx']; unfold iTM;have hat := znq (ch := ch) hD l.length j s hk hs h3;have hc : (mkC m l ch).getD (ntN l j) 0 = (zQ ch l l.length j).1 := zbT (by unfold mkC; rw [if_pos h1]; exact hat.1);have ha : (mkA m l ch).getD (ntN l j) false = (zQ ch l l.length j).2 := zbT (by unfold mkA; rw [if_pos h1]; exact hat.2);have hd : (duV m l mi).getD (ntN l j) ⟨0, 0⟩ = (mget (j : Int) (duM m l mi)).getD (bsT m s) := zbT (by unfold duV; rw [if_pos h2]; exact ziI hs h3 l.length hk);rw [hc, ha, hd]
theorem zsm {m : Mn} {l : List Sg} {mi : List Int} (h2 : duE m l mi = 0) : ckD m l = 0 /\ mi.length = (zD m l l.length).length /\ mnOk mi = true := by
 unfold duE at h2;split at h2
 ·rename_i hc;split at h2
  ·rename_i h; exact ⟨hc, by rw [h.1]; unfold prL z7; rw [if_pos hc], h.2⟩
  ·cases h2
 ·rename_i hc; exact absurd h2 hc
theorem zuh {m : Mn} {l : List Sg} (hc : ckD m l = 0) : prL m l = zD m l l.length := by unfold prL z7; rw [if_pos hc]
theorem zsn {m : Mn} {l : List Sg} {ch mi : List Int} (h : itmE m l ch mi = 0) : mkE m l ch = 0 /\ duE m l mi = 0 := by
 unfold itmE at h;split at h
 ·exact ⟨by assumption, h⟩
 ·exact absurd h (by assumption)
section
variable {m : Mn} {l : List Sg} {a b d g : List Int} {k : Nat} {s : Sg}
end
end Go.Rse
namespace Go.Rse
open Go Go.Proofs
instance : ZcK Tryz.prog 269 [.nilf, .int .i64 0, .int .i64 0] := ⟨⟨_, zvL, rfl⟩⟩
attribute [local irreducible] Pur yD yE Ex X Fn Imp LeV LeB FnO It yJ FnW FnOW
theorem zgQ {L A : List Int} {j : Nat} {c : Int} (hj : L[j]? = some c) (hc : c ∈ A) (h : ∀ i : Nat, i < j -> ∀ d, L[i]? = some d -> d ∉ A) : L.find? (fun c => decide (c ∈ A)) = some c := by
 rw [List.find?_eq_some_iff_append];refine ⟨by simpa using hc, L.take j, L.drop (j + 1), ?_, fun a ha => ?_⟩
 ·have hl := (List.getElem?_eq_some_iff.1 hj);rw [← hl.2, List.getElem_cons_drop, List.take_append_drop]
 ·obtain ⟨i, hi, e⟩ := List.getElem_of_mem ha;rw [List.length_take] at hi;have := h i (by omega) a (by rw [← e, List.getElem_take, lgg]);simpa using this
theorem zeu {L A : List Int} (h : ∀ i : Nat, i < L.length -> ∀ d, L[i]? = some d -> d ∉ A) : L.find? (fun c => decide (c ∈ A)) = none := by
 rw [List.find?_eq_none];intro c hc;obtain ⟨i, hi, e⟩ := List.getElem_of_mem hc;have := h i hi c (by rw [← e, lgg]);simpa using this
theorem zev {L A : List Int} {j : Nat} {c : Int} (hj : L[j]? = some c) (hc : c ∉ A) (h : ∀ i : Nat, i < j -> ∀ d, L[i]? = some d -> d ∉ A) : ∀ i : Nat, i < j + 1 -> ∀ d, L[i]? = some d -> d ∉ A := by
 intro i hi d hd;by_cases e : i = j
 ·subst e; rw [hj] at hd; injection hd with hd; subst hd; exact hc
 ·exact h i (by omega) d hd
theorem znp (p : Int -> Bool) (a : Int) : [a, a].find? p = [a].find? p := by
 simp only [List.find?]; cases p a <;> rfl
theorem za2 (s : Sgm) (n : Int) (hN : 0 <= s.Count.N) : Fn Tryz.prog 211 [smA s, .ept (fun _ : Unit => [iv n]) () 0] (.bool (decide (s.Count.N % 3 = n))) := by
 refine Fn.go Tryz.func211 Tryz.ntmps211 (fun g w d => ?_);apply yb;refine yH ?_;refine ya ?_;apply yk;iterate 6 refine ya ?_
 refine yf ?_;refine X.ret ?_;refine yo ?_;all_goals (first | rfl | (simp_all; done))
theorem zbG (n : Int) : Fn Tryz.prog 210 [iv n] (.fn 211 [.ept (fun _ : Unit => [iv n]) () 0]) := by
 refine Fn.go Tryz.func210 Tryz.ntmps210 (fun g w d => ?_);apply yb;refine zb6 ?_;refine ya ?_;apply yk;refine yh ?_;refine X.ret ?_;refine RetQ.imp (yT (k := 1) rfl rfl) ?_;refine yo ?_;all_goals (first | rfl | (simp_all; done))
theorem zgR (s : Sgm) : Fn Tryz.prog 212 [smA s] (.bool s.Free) := by
 refine Fn.go Tryz.func212 Tryz.ntmps212 (fun g w d => ?_);apply yb;refine yH ?_;refine ya ?_;apply yk;refine yq ?_;refine X.ret ?_;refine yo ?_;all_goals (first | rfl | (simp_all; done))
theorem zgS (s : Sgm) : Fn Tryz.prog 213 [smA s] (.bool (decide (s.Count.N = 2))) := by
 refine Fn.go Tryz.func213 Tryz.ntmps213 (fun g w d => ?_);apply yb;refine yH ?_;refine ya ?_;apply yk;refine zb ?_;refine X.ret ?_;refine yo ?_;all_goals (first | rfl | (simp_all; done))
theorem ziL  : Fn Tryz.prog 194 [] (.agg [.fn 212 [], iv 1, iv 0, .fn 211 [.ept (fun _ : Unit => [iv 0]) () 0], iv 0, iv 0, .fn 211 [.ept (fun _ : Unit => [iv 1]) () 0], iv 1, iv 2, .fn 213 [], iv 4, iv 3, .fn 211 [.ept (fun _ : Unit => [iv 2]) () 0], iv 3, iv 4]) := by
 refine Fn.go Tryz.func194 Tryz.ntmps194 (fun g w d => ?_);apply yb;refine yG ?_;apply yk;refine ya ?_;apply yk;iterate 2 refine ya ?_
 refine yp (zbG 0) ?_;iterate 2 refine ya ?_
 refine yp (zbG 1) ?_;iterate 3 refine ya ?_
 refine yp (zbG 2) ?_;iterate 2 refine ya ?_
 refine yj ?_;apply Ex.nil;refine X.ret ?_;refine RetQ.ret (.one (.cellA rfl rfl rfl rfl zrH (LeV.eq ?_)));all_goals (first | rfl | (simp_all; done))
attribute [local irreducible] chF wnL
set_option maxHeartbeats 2000000 in
theorem zhG (s : Sgm) (A : List Int) (hN : 0 <= s.Count.N) (hA : A.length <= 1000000) : Fn Tryz.prog 177 [smA s, yd A] (.tup [iv ((chF s A).getD 0), .bool (chF s A).isSome]) := by
 refine Fn.go Tryz.func177 Tryz.ntmps177 (fun g w d => ?_);apply yb;refine yH ?_;refine yh ?_;apply ye;apply yb;refine yp ziL ?_;refine yf ?_;apply X.block
 refine zh (ι := Nat) (fun (n : Nat) => [(1, yd A), (2, .ptr 2 0 0 0), (4, iv 0), (5, .bool false), (10, .agg [.fn 212 [], iv 1, iv 0, .fn 211 [.ept (fun _ : Unit => [iv 0]) () 0], iv 0, iv 0, .fn 211 [.ept (fun _ : Unit => [iv 1]) () 0], iv 1, iv 2, .fn 213 [], iv 4, iv 3, .fn 211 [.ept (fun _ : Unit => [iv 2]) () 0], iv 3, iv 4]), (11, iv (n : Int))]) (fun (n : Nat) => [(2, .box (smE s) 162)]) (fun (n : Nat) => n <= 5 /\ (1 <= n -> ¬ s.Free = true) /\ (2 <= n -> ¬ s.Count.N % 3 = 0) /\ (3 <= n -> ¬ s.Count.N % 3 = 1) /\ (4 <= n -> ¬ s.Count.N = 2) /\ (5 <= n -> ¬ s.Count.N % 3 = 2)) (fun (n : Nat) => 5 - n) 0 (fun n hk => ?_) (hJ := by
  exact ⟨by omega, by omega, by omega, by omega, by omega, by omega⟩)
 obtain ⟨hk1, hk2, hk3, hk4, hk5, hk6⟩ := hk;apply yb;refine yf ?_;apply ye;refine ym rfl ?_ ?_<;>intro hc1
 ·apply yg;apply ye;apply X.block;apply ye;obtain hn | hn | hn | hn | hn : n = 0 \/ n = 1 \/ n = 2 \/ n = 3 \/ n = 4 := by omega
  ·have hpt : (([.fn 212 [], iv 1, iv 0, .fn 211 [.ept (fun _ : Unit => [iv 0]) () 0], iv 0, iv 0, .fn 211 [.ept (fun _ : Unit => [iv 1]) () 0], iv 1, iv 2, .fn 213 [], iv 4, iv 3, .fn 211 [.ept (fun _ : Unit => [iv 2]) () 0], iv 3, iv 4] : List AV).drop (((n : Nat) : Int).toNat * 3)).take 3 = [.fn 212 [], iv 1, iv 0] := by rw [hn]; rfl
   apply yc;refine ya (hs := by exact zL ArK.h TyK.h rfl rfl (by omega) (by omega) hpt) ?_;refine yG ?_;refine yj ?_;apply Ex.nil;apply ye;apply yb;(iterate 3 refine ya ?_);refine yp (zgR s) ?_;refine yf ?_;refine ym rfl ?_ ?_<;>intro hc2
   ·have hx0 : ¬ s.Free = true := by first | exact hc2 | (rw [hc2]; decide) | (simp at hc2; simp [hc2]; done) | omega
    apply X.exit;apply yc;refine yh ?_
    refine yQ (n + 1) (hJ := by
     refine ⟨by omega, ?_, ?_, ?_, ?_, ?_⟩ <;> intro h6 <;> first | assumption | (exact absurd h6 (by omega)) | (exact hk2 (by omega)) | (exact hk3 (by omega)) | (exact hk4 (by omega)) | (exact hk5 (by omega)) | (exact hk6 (by omega)))
   have hy : s.Free = true := by first | exact hc2 | (simp at hc2; exact hc2) | omega
   have hW : (wnL s).find? (fun c => decide (c ∈ A)) = [(1 : Int), 0].find? (fun c => decide (c ∈ A)) := by
    have h0 := hk2;rw [show wnL s = [1, 0] by unfold wnL; simp_all]
   apply yg;apply ye;apply yb;(iterate 4 refine ya ?_);refine yS intE [_, _] ?_;refine yh ?_;apply X.block
   refine zh (ι := Nat) (fun (j : Nat) => [(1, yd A), (2, .ptr 2 0 0 0), (4, iv 0), (5, .bool false), (10, .agg [.fn 212 [], iv 1, iv 0, .fn 211 [.ept (fun _ : Unit => [iv 0]) () 0], iv 0, iv 0, .fn 211 [.ept (fun _ : Unit => [iv 1]) () 0], iv 1, iv 2, .fn 213 [], iv 4, iv 3, .fn 211 [.ept (fun _ : Unit => [iv 2]) () 0], iv 3, iv 4]), (11, iv (n : Int)), (23, .own 23), (24, iv 2), (25, iv (j : Int))]) (fun (j : Nat) => [(2, .box (smE s) 162), (23, .row intE [1, 0] 3 1)]) (fun (j : Nat) => j <= 2 /\ ∀ i : Nat, i < j -> ∀ d, ([1, 0] : List Int)[i]? = some d -> d ∉ A) (fun (j : Nat) => 2 - j) 0 (fun j hk => ?_) (hJ := by
    exact ⟨by omega, fun i hi => absurd hi (by omega)⟩)
   obtain ⟨hj1, hj2⟩ := hk;apply yb;refine yf ?_;apply ye;refine ym rfl ?_ ?_<;>intro hc3
   ·obtain ⟨x, hx⟩ : ∃ x, ([1, 0] : List Int)[j]? = some x := ⟨_, lgg (by simp; omega)⟩;have hx2 : ([1, 0] : List Int)[(j : Int).toNat]? = some x := by simpa using hx
    apply yg;apply ye;apply X.block;apply yb;(iterate 3 refine ya ?_);apply yk;(iterate 2 refine ya ?_);refine yp (yL A x (by omega)) ?_;apply Ex.nil;refine ym rfl ?_ ?_<;>intro hc4
    ·have hE : chF s A = some x := by unfold chF; rw [hW]; exact zgQ hx (by simpa using hc4) hj2
     apply yb;refine yq ?_;refine X.ret ?_;refine yx ?_ ?_;all_goals (rw [hE]; rfl)
    apply yg;apply yc;refine yh ?_
    refine yQ (j + 1) (hJ := by
     exact ⟨by omega, zev hx (by simpa using hc4) hj2⟩)
   ·have hj3 : j = 2 := by omega
    subst hj3;have hE : chF s A = none := by unfold chF; rw [hW]; exact zeu hj2
    apply X.exit;apply yb;refine yh ?_;refine X.ret ?_;refine yx ?_ ?_;all_goals (rw [hE]; rfl)
  ·have hpt : (([.fn 212 [], iv 1, iv 0, .fn 211 [.ept (fun _ : Unit => [iv 0]) () 0], iv 0, iv 0, .fn 211 [.ept (fun _ : Unit => [iv 1]) () 0], iv 1, iv 2, .fn 213 [], iv 4, iv 3, .fn 211 [.ept (fun _ : Unit => [iv 2]) () 0], iv 3, iv 4] : List AV).drop (((n : Nat) : Int).toNat * 3)).take 3 = [.fn 211 [.ept (fun _ : Unit => [iv 0]) () 0], iv 0, iv 0] := by rw [hn]; rfl
   apply yc;refine ya (hs := by exact zL ArK.h TyK.h rfl rfl (by omega) (by omega) hpt) ?_;refine yG ?_;refine yj ?_;apply Ex.nil;apply ye;apply yb;(iterate 3 refine ya ?_);refine yp (za2 s 0 hN) ?_;refine yf ?_;refine ym rfl ?_ ?_<;>intro hc5
   ·have hx1 : ¬ s.Count.N % 3 = 0 := by first | exact hc5 | (rw [hc5]; decide) | (simp at hc5; simp [hc5]; done) | omega
    apply X.exit;apply yc;refine yh ?_
    refine yQ (n + 1) (hJ := by
     refine ⟨by omega, ?_, ?_, ?_, ?_, ?_⟩ <;> intro h6 <;> first | assumption | (exact absurd h6 (by omega)) | (exact hk2 (by omega)) | (exact hk3 (by omega)) | (exact hk4 (by omega)) | (exact hk5 (by omega)) | (exact hk6 (by omega)))
   have hy : s.Count.N % 3 = 0 := by first | exact hc5 | (simp at hc5; exact hc5) | omega
   have hW : (wnL s).find? (fun c => decide (c ∈ A)) = [(0 : Int), 0].find? (fun c => decide (c ∈ A)) := by
    have h0 := hk2;rw [znp, show wnL s = [0] by unfold wnL; simp_all]
   apply yg;apply ye;apply yb;(iterate 4 refine ya ?_);refine yS intE [_, _] ?_;refine yh ?_;apply X.block
   refine zh (ι := Nat) (fun (j : Nat) => [(1, yd A), (2, .ptr 2 0 0 0), (4, iv 0), (5, .bool false), (10, .agg [.fn 212 [], iv 1, iv 0, .fn 211 [.ept (fun _ : Unit => [iv 0]) () 0], iv 0, iv 0, .fn 211 [.ept (fun _ : Unit => [iv 1]) () 0], iv 1, iv 2, .fn 213 [], iv 4, iv 3, .fn 211 [.ept (fun _ : Unit => [iv 2]) () 0], iv 3, iv 4]), (11, iv (n : Int)), (23, .own 23), (24, iv 2), (25, iv (j : Int))]) (fun (j : Nat) => [(2, .box (smE s) 162), (23, .row intE [0, 0] 3 1)]) (fun (j : Nat) => j <= 2 /\ ∀ i : Nat, i < j -> ∀ d, ([0, 0] : List Int)[i]? = some d -> d ∉ A) (fun (j : Nat) => 2 - j) 0 (fun j hk => ?_) (hJ := by
    exact ⟨by omega, fun i hi => absurd hi (by omega)⟩)
   obtain ⟨hj1, hj2⟩ := hk;apply yb;refine yf ?_;apply ye;refine ym rfl ?_ ?_<;>intro hc6
   ·obtain ⟨x, hx⟩ : ∃ x, ([0, 0] : List Int)[j]? = some x := ⟨_, lgg (by simp; omega)⟩;have hx2 : ([0, 0] : List Int)[(j : Int).toNat]? = some x := by simpa using hx
    apply yg;apply ye;apply X.block;apply yb;(iterate 3 refine ya ?_);apply yk;(iterate 2 refine ya ?_);refine yp (yL A x (by omega)) ?_;apply Ex.nil;refine ym rfl ?_ ?_<;>intro hc7
    ·have hE : chF s A = some x := by unfold chF; rw [hW]; exact zgQ hx (by simpa using hc7) hj2
     apply yb;refine yq ?_;refine X.ret ?_;refine yx ?_ ?_;all_goals (rw [hE]; rfl)
    apply yg;apply yc;refine yh ?_
    refine yQ (j + 1) (hJ := by
     exact ⟨by omega, zev hx (by simpa using hc7) hj2⟩)
   ·have hj3 : j = 2 := by omega
    subst hj3;have hE : chF s A = none := by unfold chF; rw [hW]; exact zeu hj2
    apply X.exit;apply yb;refine yh ?_;refine X.ret ?_;refine yx ?_ ?_;all_goals (rw [hE]; rfl)
  ·have hpt : (([.fn 212 [], iv 1, iv 0, .fn 211 [.ept (fun _ : Unit => [iv 0]) () 0], iv 0, iv 0, .fn 211 [.ept (fun _ : Unit => [iv 1]) () 0], iv 1, iv 2, .fn 213 [], iv 4, iv 3, .fn 211 [.ept (fun _ : Unit => [iv 2]) () 0], iv 3, iv 4] : List AV).drop (((n : Nat) : Int).toNat * 3)).take 3 = [.fn 211 [.ept (fun _ : Unit => [iv 1]) () 0], iv 1, iv 2] := by rw [hn]; rfl
   apply yc;refine ya (hs := by exact zL ArK.h TyK.h rfl rfl (by omega) (by omega) hpt) ?_;refine yG ?_;refine yj ?_;apply Ex.nil;apply ye;apply yb;(iterate 3 refine ya ?_);refine yp (za2 s 1 hN) ?_;refine yf ?_;refine ym rfl ?_ ?_<;>intro hc8
   ·have hx2 : ¬ s.Count.N % 3 = 1 := by first | exact hc8 | (rw [hc8]; decide) | (simp at hc8; simp [hc8]; done) | omega
    apply X.exit;apply yc;refine yh ?_
    refine yQ (n + 1) (hJ := by
     refine ⟨by omega, ?_, ?_, ?_, ?_, ?_⟩ <;> intro h6 <;> first | assumption | (exact absurd h6 (by omega)) | (exact hk2 (by omega)) | (exact hk3 (by omega)) | (exact hk4 (by omega)) | (exact hk5 (by omega)) | (exact hk6 (by omega)))
   have hy : s.Count.N % 3 = 1 := by first | exact hc8 | (simp at hc8; exact hc8) | omega
   have hW : (wnL s).find? (fun c => decide (c ∈ A)) = [(1 : Int), 2].find? (fun c => decide (c ∈ A)) := by
    have h0 := hk2;rw [show wnL s = [1, 2] by unfold wnL; simp_all]
   apply yg;apply ye;apply yb;(iterate 4 refine ya ?_);refine yS intE [_, _] ?_;refine yh ?_;apply X.block
   refine zh (ι := Nat) (fun (j : Nat) => [(1, yd A), (2, .ptr 2 0 0 0), (4, iv 0), (5, .bool false), (10, .agg [.fn 212 [], iv 1, iv 0, .fn 211 [.ept (fun _ : Unit => [iv 0]) () 0], iv 0, iv 0, .fn 211 [.ept (fun _ : Unit => [iv 1]) () 0], iv 1, iv 2, .fn 213 [], iv 4, iv 3, .fn 211 [.ept (fun _ : Unit => [iv 2]) () 0], iv 3, iv 4]), (11, iv (n : Int)), (23, .own 23), (24, iv 2), (25, iv (j : Int))]) (fun (j : Nat) => [(2, .box (smE s) 162), (23, .row intE [1, 2] 3 1)]) (fun (j : Nat) => j <= 2 /\ ∀ i : Nat, i < j -> ∀ d, ([1, 2] : List Int)[i]? = some d -> d ∉ A) (fun (j : Nat) => 2 - j) 0 (fun j hk => ?_) (hJ := by
    exact ⟨by omega, fun i hi => absurd hi (by omega)⟩)
   obtain ⟨hj1, hj2⟩ := hk;apply yb;refine yf ?_;apply ye;refine ym rfl ?_ ?_<;>intro hc9
   ·obtain ⟨x, hx⟩ : ∃ x, ([1, 2] : List Int)[j]? = some x := ⟨_, lgg (by simp; omega)⟩;have hx2 : ([1, 2] : List Int)[(j : Int).toNat]? = some x := by simpa using hx
    apply yg;apply ye;apply X.block;apply yb;(iterate 3 refine ya ?_);apply yk;(iterate 2 refine ya ?_);refine yp (yL A x (by omega)) ?_;apply Ex.nil;refine ym rfl ?_ ?_<;>intro hc10
    ·have hE : chF s A = some x := by unfold chF; rw [hW]; exact zgQ hx (by simpa using hc10) hj2
     apply yb;refine yq ?_;refine X.ret ?_;refine yx ?_ ?_;all_goals (rw [hE]; rfl)
    apply yg;apply yc;refine yh ?_
    refine yQ (j + 1) (hJ := by
     exact ⟨by omega, zev hx (by simpa using hc10) hj2⟩)
   ·have hj3 : j = 2 := by omega
    subst hj3;have hE : chF s A = none := by unfold chF; rw [hW]; exact zeu hj2
    apply X.exit;apply yb;refine yh ?_;refine X.ret ?_;refine yx ?_ ?_;all_goals (rw [hE]; rfl)
  ·have hpt : (([.fn 212 [], iv 1, iv 0, .fn 211 [.ept (fun _ : Unit => [iv 0]) () 0], iv 0, iv 0, .fn 211 [.ept (fun _ : Unit => [iv 1]) () 0], iv 1, iv 2, .fn 213 [], iv 4, iv 3, .fn 211 [.ept (fun _ : Unit => [iv 2]) () 0], iv 3, iv 4] : List AV).drop (((n : Nat) : Int).toNat * 3)).take 3 = [.fn 213 [], iv 4, iv 3] := by rw [hn]; rfl
   apply yc;refine ya (hs := by exact zL ArK.h TyK.h rfl rfl (by omega) (by omega) hpt) ?_;refine yG ?_;refine yj ?_;apply Ex.nil;apply ye;apply yb;(iterate 3 refine ya ?_);refine yp (zgS s) ?_;refine yf ?_;refine ym rfl ?_ ?_<;>intro hc11
   ·have hx3 : ¬ s.Count.N = 2 := by first | exact hc11 | (rw [hc11]; decide) | (simp at hc11; simp [hc11]; done) | omega
    apply X.exit;apply yc;refine yh ?_
    refine yQ (n + 1) (hJ := by
     refine ⟨by omega, ?_, ?_, ?_, ?_, ?_⟩ <;> intro h6 <;> first | assumption | (exact absurd h6 (by omega)) | (exact hk2 (by omega)) | (exact hk3 (by omega)) | (exact hk4 (by omega)) | (exact hk5 (by omega)) | (exact hk6 (by omega)))
   have hy : s.Count.N = 2 := by first | exact hc11 | (simp at hc11; exact hc11) | omega
   have hW : (wnL s).find? (fun c => decide (c ∈ A)) = [(4 : Int), 3].find? (fun c => decide (c ∈ A)) := by
    have h0 := hk2;rw [show wnL s = [4, 3] by unfold wnL; simp_all]
   apply yg;apply ye;apply yb;(iterate 4 refine ya ?_);refine yS intE [_, _] ?_;refine yh ?_;apply X.block
   refine zh (ι := Nat) (fun (j : Nat) => [(1, yd A), (2, .ptr 2 0 0 0), (4, iv 0), (5, .bool false), (10, .agg [.fn 212 [], iv 1, iv 0, .fn 211 [.ept (fun _ : Unit => [iv 0]) () 0], iv 0, iv 0, .fn 211 [.ept (fun _ : Unit => [iv 1]) () 0], iv 1, iv 2, .fn 213 [], iv 4, iv 3, .fn 211 [.ept (fun _ : Unit => [iv 2]) () 0], iv 3, iv 4]), (11, iv (n : Int)), (23, .own 23), (24, iv 2), (25, iv (j : Int))]) (fun (j : Nat) => [(2, .box (smE s) 162), (23, .row intE [4, 3] 3 1)]) (fun (j : Nat) => j <= 2 /\ ∀ i : Nat, i < j -> ∀ d, ([4, 3] : List Int)[i]? = some d -> d ∉ A) (fun (j : Nat) => 2 - j) 0 (fun j hk => ?_) (hJ := by
    exact ⟨by omega, fun i hi => absurd hi (by omega)⟩)
   obtain ⟨hj1, hj2⟩ := hk;apply yb;refine yf ?_;apply ye;refine ym rfl ?_ ?_<;>intro hc12
   ·obtain ⟨x, hx⟩ : ∃ x, ([4, 3] : List Int)[j]? = some x := ⟨_, lgg (by simp; omega)⟩;have hx2 : ([4, 3] : List Int)[(j : Int).toNat]? = some x := by simpa using hx
    apply yg;apply ye;apply X.block;apply yb;(iterate 3 refine ya ?_);apply yk;(iterate 2 refine ya ?_);refine yp (yL A x (by omega)) ?_;apply Ex.nil;refine ym rfl ?_ ?_<;>intro hc13
    ·have hE : chF s A = some x := by unfold chF; rw [hW]; exact zgQ hx (by simpa using hc13) hj2
     apply yb;refine yq ?_;refine X.ret ?_;refine yx ?_ ?_;all_goals (rw [hE]; rfl)
    apply yg;apply yc;refine yh ?_
    refine yQ (j + 1) (hJ := by
     exact ⟨by omega, zev hx (by simpa using hc13) hj2⟩)
   ·have hj3 : j = 2 := by omega
    subst hj3;have hE : chF s A = none := by unfold chF; rw [hW]; exact zeu hj2
    apply X.exit;apply yb;refine yh ?_;refine X.ret ?_;refine yx ?_ ?_;all_goals (rw [hE]; rfl)
  ·have hpt : (([.fn 212 [], iv 1, iv 0, .fn 211 [.ept (fun _ : Unit => [iv 0]) () 0], iv 0, iv 0, .fn 211 [.ept (fun _ : Unit => [iv 1]) () 0], iv 1, iv 2, .fn 213 [], iv 4, iv 3, .fn 211 [.ept (fun _ : Unit => [iv 2]) () 0], iv 3, iv 4] : List AV).drop (((n : Nat) : Int).toNat * 3)).take 3 = [.fn 211 [.ept (fun _ : Unit => [iv 2]) () 0], iv 3, iv 4] := by rw [hn]; rfl
   apply yc;refine ya (hs := by exact zL ArK.h TyK.h rfl rfl (by omega) (by omega) hpt) ?_;refine yG ?_;refine yj ?_;apply Ex.nil;apply ye;apply yb;(iterate 3 refine ya ?_);refine yp (za2 s 2 hN) ?_;refine yf ?_;refine ym rfl ?_ ?_<;>intro hc14
   ·have hx4 : ¬ s.Count.N % 3 = 2 := by first | exact hc14 | (rw [hc14]; decide) | (simp at hc14; simp [hc14]; done) | omega
    apply X.exit;apply yc;refine yh ?_
    refine yQ (n + 1) (hJ := by
     refine ⟨by omega, ?_, ?_, ?_, ?_, ?_⟩ <;> intro h6 <;> first | assumption | (exact absurd h6 (by omega)) | (exact hk2 (by omega)) | (exact hk3 (by omega)) | (exact hk4 (by omega)) | (exact hk5 (by omega)) | (exact hk6 (by omega)))
   have hy : s.Count.N % 3 = 2 := by first | exact hc14 | (simp at hc14; exact hc14) | omega
   have hW : (wnL s).find? (fun c => decide (c ∈ A)) = [(3 : Int), 4].find? (fun c => decide (c ∈ A)) := by
    have h0 := hk2;rw [show wnL s = [3, 4] by unfold wnL; simp_all]
   apply yg;apply ye;apply yb;(iterate 4 refine ya ?_);refine yS intE [_, _] ?_;refine yh ?_;apply X.block
   refine zh (ι := Nat) (fun (j : Nat) => [(1, yd A), (2, .ptr 2 0 0 0), (4, iv 0), (5, .bool false), (10, .agg [.fn 212 [], iv 1, iv 0, .fn 211 [.ept (fun _ : Unit => [iv 0]) () 0], iv 0, iv 0, .fn 211 [.ept (fun _ : Unit => [iv 1]) () 0], iv 1, iv 2, .fn 213 [], iv 4, iv 3, .fn 211 [.ept (fun _ : Unit => [iv 2]) () 0], iv 3, iv 4]), (11, iv (n : Int)), (23, .own 23), (24, iv 2), (25, iv (j : Int))]) (fun (j : Nat) => [(2, .box (smE s) 162), (23, .row intE [3, 4] 3 1)]) (fun (j : Nat) => j <= 2 /\ ∀ i : Nat, i < j -> ∀ d, ([3, 4] : List Int)[i]? = some d -> d ∉ A) (fun (j : Nat) => 2 - j) 0 (fun j hk => ?_) (hJ := by
    exact ⟨by omega, fun i hi => absurd hi (by omega)⟩)
   obtain ⟨hj1, hj2⟩ := hk;apply yb;refine yf ?_;apply ye;refine ym rfl ?_ ?_<;>intro hc15
   ·obtain ⟨x, hx⟩ : ∃ x, ([3, 4] : List Int)[j]? = some x := ⟨_, lgg (by simp; omega)⟩;have hx2 : ([3, 4] : List Int)[(j : Int).toNat]? = some x := by simpa using hx
    apply yg;apply ye;apply X.block;apply yb;(iterate 3 refine ya ?_);apply yk;(iterate 2 refine ya ?_);refine yp (yL A x (by omega)) ?_;apply Ex.nil;refine ym rfl ?_ ?_<;>intro hc16
    ·have hE : chF s A = some x := by unfold chF; rw [hW]; exact zgQ hx (by simpa using hc16) hj2
     apply yb;refine yq ?_;refine X.ret ?_;refine yx ?_ ?_;all_goals (rw [hE]; rfl)
    apply yg;apply yc;refine yh ?_
    refine yQ (j + 1) (hJ := by
     exact ⟨by omega, zev hx (by simpa using hc16) hj2⟩)
   ·have hj3 : j = 2 := by omega
    subst hj3;have hE : chF s A = none := by unfold chF; rw [hW]; exact zeu hj2
    apply X.exit;apply yb;refine yh ?_;refine X.ret ?_;refine yx ?_ ?_;all_goals (rw [hE]; rfl)
 ·exfalso; have a := hk3 (by omega); have b := hk4 (by omega); have c := hk6 (by omega); omega
end Go.Rse
namespace Go.Rse
open Go Go.Proofs
attribute [local irreducible] Pur yD yE Ex X Fn Imp LeV LeB FnO It yJ FnW FnOW
attribute [local irreducible] stK okJ alK alQ chN chL segV segE unT
set_option maxHeartbeats 2000000 in
theorem zew (m : Mn) (k : Int) (l : List Ite) (M : List Int) (h0 : -9223372036854775808 <= k) (h1 : k <= 9223372036854775807) (hl : l.length <= 1000000) (hM : M.length <= 4000000) (hE : segE m k l = 0) (hX : (decide (((segV m k l).length : Int) <= (M.length : Int))) = false) (hok : okJ (unT m k) k (segV m k l) l M M.length = true) (hN : ∀ s ∈ segV m k l, 0 <= s.Count.N) (hMS : M.length <= (segV m k l).length) : FnO Tryz.prog 162 [mnA m, iv k, itsA l, yd M] [] [] (.tup [.own 42, iv 0]) [(42, .row intE (alK (unT m k) k (segV m k l) l M M.length) 3 1)] := by
 have hbl := zan m k l;have hu := zeD (zdY hE).1;have hSO := zb9 hE;obtain ⟨s, hs⟩ : ∃ s, (segV m k l)[M.length]? = some s := ⟨_, lgg (by simp at hX; omega)⟩;have hs2 : (segV m k l)[(M.length : Int).toNat]? = some s := by simpa using hs
 have hso := hSO.all s (List.mem_of_getElem? hs);have hsb := zgm hso.b (zbX (unT m k) (segV m k l) l M M.length);have hsN := hN s (List.mem_of_getElem? hs);have hsl := zbX (unT m k) (segV m k l) l M M.length;have hae : alQ (unT m k) k (stK (unT m k) (segV m k l) l M M.length).1 (stK (unT m k) (segV m k l) l M M.length).2 s = alK (unT m k) k (segV m k l) l M M.length := by unfold alK; rw [show (segV m k l).getD M.length default = s by rw [List.getD_eq_getElem?_getD, hs]; rfl]
 refine FnO.introX (ts := [(0, mnA m), (1, iv k), (2, itsA l), (3, yd M)]) (rv := [.tmp 8, .tmp 9]) (n := 43) (cs := []) (by kernel_rfl) Tryz.func162 rfl Tryz.ntmps162 rfl rfl (by simp) rfl rfl rfl rfl (fun g w d vs => ?_);apply yb;refine yH ?_;iterate 2 refine ya ?_
 apply yk;iterate 3 refine ya ?_
 refine zU [(36, 2000000), (30, 2000001), (34, 2000002)] (zq m k l h0 h1 hl hE) ?_;iterate 6 refine ya ?_
 refine yf ?_;apply ye;apply yb;refine yh ?_;refine ym rfl ?_ ?_<;>intro hc1
 ·exact absurd rfl hc1
 apply yg;iterate 2 apply ye
 have hg5 : ((decide (((segV m k l).length : Int) <= (M.length : Int))) == false) = true := by rw [hX]; rfl
 ·apply yc;iterate 6 refine ya ?_
  iterate 3 refine zy ?_
  refine zas rfl rfl hg5 ?_;refine zU [(2000000, 2000000), (2000001, 2000001), (2000002, 2000002)] (zX (unT m k) k (segV m k l) l M hSO hN hMS hl (by omega) (by omega) (by omega) hok) ?_;refine zy ?_;refine yf ?_;refine ym rfl ?_ ?_<;>intro hc2
  ·first | (exact absurd hc2.2 (by decide)) | (cases hc2; done) | (exact absurd hc2 (by simp [hX])) | (simp [hX] at hc2; done) | (rcases hc2 with h | h <;> first | (cases h; done) | (exact absurd h (by simpa using hX)) | (simp [hX] at h; done) | (exact absurd h (by decide)))
  apply yg;apply yb;iterate 6 refine ya ?_
  refine Ex.stepA (zfa (ι := Nat) (stF := fun b => ⟨[(36, .ept (fun _ : Unit => [.sl itE (stK (unT m k) (segV m k l) l M M.length).1, iv k, iv (unT m k).N, iv (unT m k).D, .val (.map (some b))]) () 0), (41, smA s)], []⟩) 42 (fun g a w hr => zmb (k := 2000002) rfl (fun b => (Imp.freeze (k := 2000001) rfl).trans ((yT (k := 2000000) rfl rfl).trans yi)) (fun _ => rfl) (fun _ => rfl) hr) (fun b => zO (stK (unT m k) (segV m k l) l M M.length).1 k (unT m k) b (stK (unT m k) (segV m k l) l M M.length).2 s hsb (by omega) (by omega) (by omega) hsN)) rfl rfl ?_;refine yh ?_;refine X.ret ?_;refine zfB (st' := ⟨[(8, .own 42), (9, iv 0)], [(1000001, .hold vs []), (42, .row intE (alK (unT m k) k (segV m k l) l M M.length) 3 1)]⟩) (by first | exact yi | exact yA) ?_;refine zma.mk [(8, .own 42), (9, iv 0)] [] (.inr rfl) (.many (by decide) (.cons (.tmp rfl (LeV.eq ?_)) (.cons (.tmp rfl (LeV.eq ?_)) .nil)));all_goals (rfl)
end Go.Rse
