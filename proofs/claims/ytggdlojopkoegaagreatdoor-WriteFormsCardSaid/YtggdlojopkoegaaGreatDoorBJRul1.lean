/-
  Walks: the table of the rule and the zaw for a segment.
-/
import Derived.Test.YtggdlojopkoegaaGreatDoorBJLvl12
import Derived.Test.YtggdlojopkoegaaGreatDoorBLogC
set_option linter.unusedSimpArgs false
set_option linter.unusedVariables false
namespace Go.Rse
open Go Go.Proofs
instance : ZcK Tryz.prog 373 [.nilf, .int .i64 0, .int .i64 0] := ⟨⟨_, zt2, rfl⟩⟩
attribute [local irreducible] Pur yD yF Ex X Fn Imp LeV LeB FnO It yH FnW FnOW
theorem zgi {L A : List Int} {j : Nat} {c : Int} (hj : L[j]? = some c) (hc : c ∈ A) (h : ∀ i : Nat, i < j -> ∀ d, L[i]? = some d -> d ∉ A) : L.find? (fun c => decide (c ∈ A)) = some c := by
 rw [List.find?_eq_some_iff_append];refine ⟨by simpa using hc, L.take j, L.drop (j + 1), ?_, fun a ha => ?_⟩
 ·have hl := (List.getElem?_eq_some_iff.1 hj);rw [← hl.2, List.getElem_cons_drop, List.take_append_drop]
 ·obtain ⟨i, hi, e⟩ := List.getElem_of_mem ha;rw [List.length_take] at hi;have := h i (by omega) a (by rw [← e, List.getElem_take, lgg]);simpa using this
theorem zez {L A : List Int} (h : ∀ i : Nat, i < L.length -> ∀ d, L[i]? = some d -> d ∉ A) : L.find? (fun c => decide (c ∈ A)) = none := by
 rw [List.find?_eq_none];intro c hc;obtain ⟨i, hi, e⟩ := List.getElem_of_mem hc;have := h i hi c (by rw [← e, lgg]);simpa using this
theorem zeA {L A : List Int} {j : Nat} {c : Int} (hj : L[j]? = some c) (hc : c ∉ A) (h : ∀ i : Nat, i < j -> ∀ d, L[i]? = some d -> d ∉ A) : ∀ i : Nat, i < j + 1 -> ∀ d, L[i]? = some d -> d ∉ A := by
 intro i hi d hd;by_cases e : i = j
 ·subst e; rw [hj] at hd; injection hd with hd; subst hd; exact hc
 ·exact h i (by omega) d hd
theorem zmN (p : Int -> Bool) (a : Int) : [a, a].find? p = [a].find? p := by
 simp only [List.find?]; cases p a <;> rfl
theorem za9 (s : Sgm) (n : Int) (hN : 0 <= s.Count.N) : Fn Tryz.prog 366 [smA s, .ept (fun _ : Unit => [iv n]) () 0] (.bool (decide (s.Count.N % 3 = n))) := by
 refine Fn.go Tryz.func366 Tryz.ntmps366 (fun g w d => ?_);apply yb;refine yA ?_;refine ya ?_;apply yk;iterate 6 refine ya ?_
 refine yd ?_;refine X.ret ?_;refine yh ?_;all_goals (first | rfl | (simp_all; done))
theorem zbG (n : Int) : Fn Tryz.prog 365 [iv n] (.fn 366 [.ept (fun _ : Unit => [iv n]) () 0]) := by
 refine Fn.go Tryz.func365 Tryz.ntmps365 (fun g w d => ?_);apply yb;refine zds ?_;refine ya ?_;apply yk;refine yg ?_;refine X.ret ?_;refine RetQ.imp (zi (k := 1) rfl rfl) ?_;refine yh ?_;all_goals (first | rfl | (simp_all; done))
theorem zgj (s : Sgm) : Fn Tryz.prog 367 [smA s] (.bool s.Free) := by
 refine Fn.go Tryz.func367 Tryz.ntmps367 (fun g w d => ?_);apply yb;refine yA ?_;refine ya ?_;apply yk;refine yo ?_;refine X.ret ?_;refine yh ?_;all_goals (first | rfl | (simp_all; done))
theorem zgk (s : Sgm) : Fn Tryz.prog 368 [smA s] (.bool (decide (s.Count.N = 2))) := by
 refine Fn.go Tryz.func368 Tryz.ntmps368 (fun g w d => ?_);apply yb;refine yA ?_;refine ya ?_;apply yk;refine zy ?_;refine X.ret ?_;refine yh ?_;all_goals (first | rfl | (simp_all; done))
theorem zio  : Fn Tryz.prog 341 [] (.agg [.fn 367 [], iv 1, iv 0, .fn 366 [.ept (fun _ : Unit => [iv 0]) () 0], iv 0, iv 0, .fn 366 [.ept (fun _ : Unit => [iv 1]) () 0], iv 1, iv 2, .fn 368 [], iv 4, iv 3, .fn 366 [.ept (fun _ : Unit => [iv 2]) () 0], iv 3, iv 4]) := by
 refine Fn.go Tryz.func341 Tryz.ntmps341 (fun g w d => ?_);apply yb;refine yC ?_;apply yk;refine ya ?_;apply yk;iterate 2 refine ya ?_
 refine ym (zbG 0) ?_;iterate 2 refine ya ?_
 refine ym (zbG 1) ?_;iterate 3 refine ya ?_
 refine ym (zbG 2) ?_;iterate 2 refine ya ?_
 refine Ex.mo ?_;apply Ex.nil;refine X.ret ?_;refine RetQ.ret (.one (.cellA rfl rfl rfl rfl zqc (LeV.eq ?_)));all_goals (first | rfl | (simp_all; done))
attribute [local irreducible] chF wnL
set_option maxHeartbeats 2000000 in
theorem zhh (s : Sgm) (A : List Int) (hN : 0 <= s.Count.N) (hA : A.length <= 1000000) : Fn Tryz.prog 311 [smA s, yl A] (.tup [iv ((chF s A).getD 0), .bool (chF s A).isSome]) := by
 refine Fn.go Tryz.func311 Tryz.ntmps311 (fun g w d => ?_);apply yb;refine yA ?_;refine yg ?_;apply ye;apply yb;refine ym zio ?_;refine yd ?_;apply X.block
 refine zb (ι := Nat) (fun (n : Nat) => [(1, yl A), (2, .ptr 2 0 0 0), (4, iv 0), (5, .bool false), (10, .agg [.fn 367 [], iv 1, iv 0, .fn 366 [.ept (fun _ : Unit => [iv 0]) () 0], iv 0, iv 0, .fn 366 [.ept (fun _ : Unit => [iv 1]) () 0], iv 1, iv 2, .fn 368 [], iv 4, iv 3, .fn 366 [.ept (fun _ : Unit => [iv 2]) () 0], iv 3, iv 4]), (11, iv (n : Int))]) (fun (n : Nat) => [(2, .box (smE s) 326)]) (fun (n : Nat) => n <= 5 /\ (1 <= n -> ¬ s.Free = true) /\ (2 <= n -> ¬ s.Count.N % 3 = 0) /\ (3 <= n -> ¬ s.Count.N % 3 = 1) /\ (4 <= n -> ¬ s.Count.N = 2) /\ (5 <= n -> ¬ s.Count.N % 3 = 2)) (fun (n : Nat) => 5 - n) 0 (fun n hk => ?_) (hJ := by
  exact ⟨by omega, by omega, by omega, by omega, by omega, by omega⟩)
 obtain ⟨hk1, hk2, hk3, hk4, hk5, hk6⟩ := hk;apply yb;refine yd ?_;apply ye;refine yj rfl ?_ ?_<;>intro hc1
 ·apply yf;apply ye;apply X.block;apply ye;obtain hn | hn | hn | hn | hn : n = 0 \/ n = 1 \/ n = 2 \/ n = 3 \/ n = 4 := by omega
  ·have hpt : (([.fn 367 [], iv 1, iv 0, .fn 366 [.ept (fun _ : Unit => [iv 0]) () 0], iv 0, iv 0, .fn 366 [.ept (fun _ : Unit => [iv 1]) () 0], iv 1, iv 2, .fn 368 [], iv 4, iv 3, .fn 366 [.ept (fun _ : Unit => [iv 2]) () 0], iv 3, iv 4] : List AV).drop (((n : Nat) : Int).toNat * 3)).take 3 = [.fn 367 [], iv 1, iv 0] := by rw [hn]; rfl
   apply yc;refine ya (hs := by exact zu ArK.h TyK.h rfl rfl (by omega) (by omega) hpt) ?_;refine yC ?_;refine Ex.mo ?_;apply Ex.nil;apply ye;apply yb;(iterate 3 refine ya ?_);refine ym (zgj s) ?_;refine yd ?_;refine yj rfl ?_ ?_<;>intro hc2
   ·have hx0 : ¬ s.Free = true := by first | exact hc2 | (rw [hc2]; decide) | (simp at hc2; simp [hc2]; done) | omega
    apply X.exit;apply yc;refine yg ?_
    refine yJ (n + 1) (hJ := by
     refine ⟨by omega, ?_, ?_, ?_, ?_, ?_⟩ <;> intro h6 <;> first | assumption | (exact absurd h6 (by omega)) | (exact hk2 (by omega)) | (exact hk3 (by omega)) | (exact hk4 (by omega)) | (exact hk5 (by omega)) | (exact hk6 (by omega)))
   have hy : s.Free = true := by first | exact hc2 | (simp at hc2; exact hc2) | omega
   have hW : (wnL s).find? (fun c => decide (c ∈ A)) = [(1 : Int), 0].find? (fun c => decide (c ∈ A)) := by
    have h0 := hk2;rw [show wnL s = [1, 0] by unfold wnL; simp_all]
   apply yf;apply ye;apply yb;(iterate 4 refine ya ?_);refine yO intE [_, _] ?_;refine yg ?_;apply X.block
   refine zb (ι := Nat) (fun (j : Nat) => [(1, yl A), (2, .ptr 2 0 0 0), (4, iv 0), (5, .bool false), (10, .agg [.fn 367 [], iv 1, iv 0, .fn 366 [.ept (fun _ : Unit => [iv 0]) () 0], iv 0, iv 0, .fn 366 [.ept (fun _ : Unit => [iv 1]) () 0], iv 1, iv 2, .fn 368 [], iv 4, iv 3, .fn 366 [.ept (fun _ : Unit => [iv 2]) () 0], iv 3, iv 4]), (11, iv (n : Int)), (23, .own 23), (24, iv 2), (25, iv (j : Int))]) (fun (j : Nat) => [(2, .box (smE s) 326), (23, .row intE [1, 0] 3 1)]) (fun (j : Nat) => j <= 2 /\ ∀ i : Nat, i < j -> ∀ d, ([1, 0] : List Int)[i]? = some d -> d ∉ A) (fun (j : Nat) => 2 - j) 0 (fun j hk => ?_) (hJ := by
    exact ⟨by omega, fun i hi => absurd hi (by omega)⟩)
   obtain ⟨hj1, hj2⟩ := hk;apply yb;refine yd ?_;apply ye;refine yj rfl ?_ ?_<;>intro hc3
   ·obtain ⟨x, hx⟩ : ∃ x, ([1, 0] : List Int)[j]? = some x := ⟨_, lgg (by simp; omega)⟩;have hx2 : ([1, 0] : List Int)[(j : Int).toNat]? = some x := by simpa using hx
    apply yf;apply ye;apply X.block;apply yb;(iterate 3 refine ya ?_);apply yk;(iterate 2 refine ya ?_);refine ym (yP A x (by omega)) ?_;apply Ex.nil;refine yj rfl ?_ ?_<;>intro hc4
    ·have hE : chF s A = some x := by unfold chF; rw [hW]; exact zgi hx (by simpa using hc4) hj2
     apply yb;refine yo ?_;refine X.ret ?_;refine yw ?_ ?_;all_goals (rw [hE]; rfl)
    apply yf;apply yc;refine yg ?_
    refine yJ (j + 1) (hJ := by
     exact ⟨by omega, zeA hx (by simpa using hc4) hj2⟩)
   ·have hj3 : j = 2 := by omega
    subst hj3;have hE : chF s A = none := by unfold chF; rw [hW]; exact zez hj2
    apply X.exit;apply yb;refine yg ?_;refine X.ret ?_;refine yw ?_ ?_;all_goals (rw [hE]; rfl)
  ·have hpt : (([.fn 367 [], iv 1, iv 0, .fn 366 [.ept (fun _ : Unit => [iv 0]) () 0], iv 0, iv 0, .fn 366 [.ept (fun _ : Unit => [iv 1]) () 0], iv 1, iv 2, .fn 368 [], iv 4, iv 3, .fn 366 [.ept (fun _ : Unit => [iv 2]) () 0], iv 3, iv 4] : List AV).drop (((n : Nat) : Int).toNat * 3)).take 3 = [.fn 366 [.ept (fun _ : Unit => [iv 0]) () 0], iv 0, iv 0] := by rw [hn]; rfl
   apply yc;refine ya (hs := by exact zu ArK.h TyK.h rfl rfl (by omega) (by omega) hpt) ?_;refine yC ?_;refine Ex.mo ?_;apply Ex.nil;apply ye;apply yb;(iterate 3 refine ya ?_);refine ym (za9 s 0 hN) ?_;refine yd ?_;refine yj rfl ?_ ?_<;>intro hc5
   ·have hx1 : ¬ s.Count.N % 3 = 0 := by first | exact hc5 | (rw [hc5]; decide) | (simp at hc5; simp [hc5]; done) | omega
    apply X.exit;apply yc;refine yg ?_
    refine yJ (n + 1) (hJ := by
     refine ⟨by omega, ?_, ?_, ?_, ?_, ?_⟩ <;> intro h6 <;> first | assumption | (exact absurd h6 (by omega)) | (exact hk2 (by omega)) | (exact hk3 (by omega)) | (exact hk4 (by omega)) | (exact hk5 (by omega)) | (exact hk6 (by omega)))
   have hy : s.Count.N % 3 = 0 := by first | exact hc5 | (simp at hc5; exact hc5) | omega
   have hW : (wnL s).find? (fun c => decide (c ∈ A)) = [(0 : Int), 0].find? (fun c => decide (c ∈ A)) := by
    have h0 := hk2;rw [zmN, show wnL s = [0] by unfold wnL; simp_all]
   apply yf;apply ye;apply yb;(iterate 4 refine ya ?_);refine yO intE [_, _] ?_;refine yg ?_;apply X.block
   refine zb (ι := Nat) (fun (j : Nat) => [(1, yl A), (2, .ptr 2 0 0 0), (4, iv 0), (5, .bool false), (10, .agg [.fn 367 [], iv 1, iv 0, .fn 366 [.ept (fun _ : Unit => [iv 0]) () 0], iv 0, iv 0, .fn 366 [.ept (fun _ : Unit => [iv 1]) () 0], iv 1, iv 2, .fn 368 [], iv 4, iv 3, .fn 366 [.ept (fun _ : Unit => [iv 2]) () 0], iv 3, iv 4]), (11, iv (n : Int)), (23, .own 23), (24, iv 2), (25, iv (j : Int))]) (fun (j : Nat) => [(2, .box (smE s) 326), (23, .row intE [0, 0] 3 1)]) (fun (j : Nat) => j <= 2 /\ ∀ i : Nat, i < j -> ∀ d, ([0, 0] : List Int)[i]? = some d -> d ∉ A) (fun (j : Nat) => 2 - j) 0 (fun j hk => ?_) (hJ := by
    exact ⟨by omega, fun i hi => absurd hi (by omega)⟩)
   obtain ⟨hj1, hj2⟩ := hk;apply yb;refine yd ?_;apply ye;refine yj rfl ?_ ?_<;>intro hc6
   ·obtain ⟨x, hx⟩ : ∃ x, ([0, 0] : List Int)[j]? = some x := ⟨_, lgg (by simp; omega)⟩;have hx2 : ([0, 0] : List Int)[(j : Int).toNat]? = some x := by simpa using hx
    apply yf;apply ye;apply X.block;apply yb;(iterate 3 refine ya ?_);apply yk;(iterate 2 refine ya ?_);refine ym (yP A x (by omega)) ?_;apply Ex.nil;refine yj rfl ?_ ?_<;>intro hc7
    ·have hE : chF s A = some x := by unfold chF; rw [hW]; exact zgi hx (by simpa using hc7) hj2
     apply yb;refine yo ?_;refine X.ret ?_;refine yw ?_ ?_;all_goals (rw [hE]; rfl)
    apply yf;apply yc;refine yg ?_
    refine yJ (j + 1) (hJ := by
     exact ⟨by omega, zeA hx (by simpa using hc7) hj2⟩)
   ·have hj3 : j = 2 := by omega
    subst hj3;have hE : chF s A = none := by unfold chF; rw [hW]; exact zez hj2
    apply X.exit;apply yb;refine yg ?_;refine X.ret ?_;refine yw ?_ ?_;all_goals (rw [hE]; rfl)
  ·have hpt : (([.fn 367 [], iv 1, iv 0, .fn 366 [.ept (fun _ : Unit => [iv 0]) () 0], iv 0, iv 0, .fn 366 [.ept (fun _ : Unit => [iv 1]) () 0], iv 1, iv 2, .fn 368 [], iv 4, iv 3, .fn 366 [.ept (fun _ : Unit => [iv 2]) () 0], iv 3, iv 4] : List AV).drop (((n : Nat) : Int).toNat * 3)).take 3 = [.fn 366 [.ept (fun _ : Unit => [iv 1]) () 0], iv 1, iv 2] := by rw [hn]; rfl
   apply yc;refine ya (hs := by exact zu ArK.h TyK.h rfl rfl (by omega) (by omega) hpt) ?_;refine yC ?_;refine Ex.mo ?_;apply Ex.nil;apply ye;apply yb;(iterate 3 refine ya ?_);refine ym (za9 s 1 hN) ?_;refine yd ?_;refine yj rfl ?_ ?_<;>intro hc8
   ·have hx2 : ¬ s.Count.N % 3 = 1 := by first | exact hc8 | (rw [hc8]; decide) | (simp at hc8; simp [hc8]; done) | omega
    apply X.exit;apply yc;refine yg ?_
    refine yJ (n + 1) (hJ := by
     refine ⟨by omega, ?_, ?_, ?_, ?_, ?_⟩ <;> intro h6 <;> first | assumption | (exact absurd h6 (by omega)) | (exact hk2 (by omega)) | (exact hk3 (by omega)) | (exact hk4 (by omega)) | (exact hk5 (by omega)) | (exact hk6 (by omega)))
   have hy : s.Count.N % 3 = 1 := by first | exact hc8 | (simp at hc8; exact hc8) | omega
   have hW : (wnL s).find? (fun c => decide (c ∈ A)) = [(1 : Int), 2].find? (fun c => decide (c ∈ A)) := by
    have h0 := hk2;rw [show wnL s = [1, 2] by unfold wnL; simp_all]
   apply yf;apply ye;apply yb;(iterate 4 refine ya ?_);refine yO intE [_, _] ?_;refine yg ?_;apply X.block
   refine zb (ι := Nat) (fun (j : Nat) => [(1, yl A), (2, .ptr 2 0 0 0), (4, iv 0), (5, .bool false), (10, .agg [.fn 367 [], iv 1, iv 0, .fn 366 [.ept (fun _ : Unit => [iv 0]) () 0], iv 0, iv 0, .fn 366 [.ept (fun _ : Unit => [iv 1]) () 0], iv 1, iv 2, .fn 368 [], iv 4, iv 3, .fn 366 [.ept (fun _ : Unit => [iv 2]) () 0], iv 3, iv 4]), (11, iv (n : Int)), (23, .own 23), (24, iv 2), (25, iv (j : Int))]) (fun (j : Nat) => [(2, .box (smE s) 326), (23, .row intE [1, 2] 3 1)]) (fun (j : Nat) => j <= 2 /\ ∀ i : Nat, i < j -> ∀ d, ([1, 2] : List Int)[i]? = some d -> d ∉ A) (fun (j : Nat) => 2 - j) 0 (fun j hk => ?_) (hJ := by
    exact ⟨by omega, fun i hi => absurd hi (by omega)⟩)
   obtain ⟨hj1, hj2⟩ := hk;apply yb;refine yd ?_;apply ye;refine yj rfl ?_ ?_<;>intro hc9
   ·obtain ⟨x, hx⟩ : ∃ x, ([1, 2] : List Int)[j]? = some x := ⟨_, lgg (by simp; omega)⟩;have hx2 : ([1, 2] : List Int)[(j : Int).toNat]? = some x := by simpa using hx
    apply yf;apply ye;apply X.block;apply yb;(iterate 3 refine ya ?_);apply yk;(iterate 2 refine ya ?_);refine ym (yP A x (by omega)) ?_;apply Ex.nil;refine yj rfl ?_ ?_<;>intro hc10
    ·have hE : chF s A = some x := by unfold chF; rw [hW]; exact zgi hx (by simpa using hc10) hj2
     apply yb;refine yo ?_;refine X.ret ?_;refine yw ?_ ?_;all_goals (rw [hE]; rfl)
    apply yf;apply yc;refine yg ?_
    refine yJ (j + 1) (hJ := by
     exact ⟨by omega, zeA hx (by simpa using hc10) hj2⟩)
   ·have hj3 : j = 2 := by omega
    subst hj3;have hE : chF s A = none := by unfold chF; rw [hW]; exact zez hj2
    apply X.exit;apply yb;refine yg ?_;refine X.ret ?_;refine yw ?_ ?_;all_goals (rw [hE]; rfl)
  ·have hpt : (([.fn 367 [], iv 1, iv 0, .fn 366 [.ept (fun _ : Unit => [iv 0]) () 0], iv 0, iv 0, .fn 366 [.ept (fun _ : Unit => [iv 1]) () 0], iv 1, iv 2, .fn 368 [], iv 4, iv 3, .fn 366 [.ept (fun _ : Unit => [iv 2]) () 0], iv 3, iv 4] : List AV).drop (((n : Nat) : Int).toNat * 3)).take 3 = [.fn 368 [], iv 4, iv 3] := by rw [hn]; rfl
   apply yc;refine ya (hs := by exact zu ArK.h TyK.h rfl rfl (by omega) (by omega) hpt) ?_;refine yC ?_;refine Ex.mo ?_;apply Ex.nil;apply ye;apply yb;(iterate 3 refine ya ?_);refine ym (zgk s) ?_;refine yd ?_;refine yj rfl ?_ ?_<;>intro hc11
   ·have hx3 : ¬ s.Count.N = 2 := by first | exact hc11 | (rw [hc11]; decide) | (simp at hc11; simp [hc11]; done) | omega
    apply X.exit;apply yc;refine yg ?_
    refine yJ (n + 1) (hJ := by
     refine ⟨by omega, ?_, ?_, ?_, ?_, ?_⟩ <;> intro h6 <;> first | assumption | (exact absurd h6 (by omega)) | (exact hk2 (by omega)) | (exact hk3 (by omega)) | (exact hk4 (by omega)) | (exact hk5 (by omega)) | (exact hk6 (by omega)))
   have hy : s.Count.N = 2 := by first | exact hc11 | (simp at hc11; exact hc11) | omega
   have hW : (wnL s).find? (fun c => decide (c ∈ A)) = [(4 : Int), 3].find? (fun c => decide (c ∈ A)) := by
    have h0 := hk2;rw [show wnL s = [4, 3] by unfold wnL; simp_all]
   apply yf;apply ye;apply yb;(iterate 4 refine ya ?_);refine yO intE [_, _] ?_;refine yg ?_;apply X.block
   refine zb (ι := Nat) (fun (j : Nat) => [(1, yl A), (2, .ptr 2 0 0 0), (4, iv 0), (5, .bool false), (10, .agg [.fn 367 [], iv 1, iv 0, .fn 366 [.ept (fun _ : Unit => [iv 0]) () 0], iv 0, iv 0, .fn 366 [.ept (fun _ : Unit => [iv 1]) () 0], iv 1, iv 2, .fn 368 [], iv 4, iv 3, .fn 366 [.ept (fun _ : Unit => [iv 2]) () 0], iv 3, iv 4]), (11, iv (n : Int)), (23, .own 23), (24, iv 2), (25, iv (j : Int))]) (fun (j : Nat) => [(2, .box (smE s) 326), (23, .row intE [4, 3] 3 1)]) (fun (j : Nat) => j <= 2 /\ ∀ i : Nat, i < j -> ∀ d, ([4, 3] : List Int)[i]? = some d -> d ∉ A) (fun (j : Nat) => 2 - j) 0 (fun j hk => ?_) (hJ := by
    exact ⟨by omega, fun i hi => absurd hi (by omega)⟩)
   obtain ⟨hj1, hj2⟩ := hk;apply yb;refine yd ?_;apply ye;refine yj rfl ?_ ?_<;>intro hc12
   ·obtain ⟨x, hx⟩ : ∃ x, ([4, 3] : List Int)[j]? = some x := ⟨_, lgg (by simp; omega)⟩;have hx2 : ([4, 3] : List Int)[(j : Int).toNat]? = some x := by simpa using hx
    apply yf;apply ye;apply X.block;apply yb;(iterate 3 refine ya ?_);apply yk;(iterate 2 refine ya ?_);refine ym (yP A x (by omega)) ?_;apply Ex.nil;refine yj rfl ?_ ?_<;>intro hc13
    ·have hE : chF s A = some x := by unfold chF; rw [hW]; exact zgi hx (by simpa using hc13) hj2
     apply yb;refine yo ?_;refine X.ret ?_;refine yw ?_ ?_;all_goals (rw [hE]; rfl)
    apply yf;apply yc;refine yg ?_
    refine yJ (j + 1) (hJ := by
     exact ⟨by omega, zeA hx (by simpa using hc13) hj2⟩)
   ·have hj3 : j = 2 := by omega
    subst hj3;have hE : chF s A = none := by unfold chF; rw [hW]; exact zez hj2
    apply X.exit;apply yb;refine yg ?_;refine X.ret ?_;refine yw ?_ ?_;all_goals (rw [hE]; rfl)
  ·have hpt : (([.fn 367 [], iv 1, iv 0, .fn 366 [.ept (fun _ : Unit => [iv 0]) () 0], iv 0, iv 0, .fn 366 [.ept (fun _ : Unit => [iv 1]) () 0], iv 1, iv 2, .fn 368 [], iv 4, iv 3, .fn 366 [.ept (fun _ : Unit => [iv 2]) () 0], iv 3, iv 4] : List AV).drop (((n : Nat) : Int).toNat * 3)).take 3 = [.fn 366 [.ept (fun _ : Unit => [iv 2]) () 0], iv 3, iv 4] := by rw [hn]; rfl
   apply yc;refine ya (hs := by exact zu ArK.h TyK.h rfl rfl (by omega) (by omega) hpt) ?_;refine yC ?_;refine Ex.mo ?_;apply Ex.nil;apply ye;apply yb;(iterate 3 refine ya ?_);refine ym (za9 s 2 hN) ?_;refine yd ?_;refine yj rfl ?_ ?_<;>intro hc14
   ·have hx4 : ¬ s.Count.N % 3 = 2 := by first | exact hc14 | (rw [hc14]; decide) | (simp at hc14; simp [hc14]; done) | omega
    apply X.exit;apply yc;refine yg ?_
    refine yJ (n + 1) (hJ := by
     refine ⟨by omega, ?_, ?_, ?_, ?_, ?_⟩ <;> intro h6 <;> first | assumption | (exact absurd h6 (by omega)) | (exact hk2 (by omega)) | (exact hk3 (by omega)) | (exact hk4 (by omega)) | (exact hk5 (by omega)) | (exact hk6 (by omega)))
   have hy : s.Count.N % 3 = 2 := by first | exact hc14 | (simp at hc14; exact hc14) | omega
   have hW : (wnL s).find? (fun c => decide (c ∈ A)) = [(3 : Int), 4].find? (fun c => decide (c ∈ A)) := by
    have h0 := hk2;rw [show wnL s = [3, 4] by unfold wnL; simp_all]
   apply yf;apply ye;apply yb;(iterate 4 refine ya ?_);refine yO intE [_, _] ?_;refine yg ?_;apply X.block
   refine zb (ι := Nat) (fun (j : Nat) => [(1, yl A), (2, .ptr 2 0 0 0), (4, iv 0), (5, .bool false), (10, .agg [.fn 367 [], iv 1, iv 0, .fn 366 [.ept (fun _ : Unit => [iv 0]) () 0], iv 0, iv 0, .fn 366 [.ept (fun _ : Unit => [iv 1]) () 0], iv 1, iv 2, .fn 368 [], iv 4, iv 3, .fn 366 [.ept (fun _ : Unit => [iv 2]) () 0], iv 3, iv 4]), (11, iv (n : Int)), (23, .own 23), (24, iv 2), (25, iv (j : Int))]) (fun (j : Nat) => [(2, .box (smE s) 326), (23, .row intE [3, 4] 3 1)]) (fun (j : Nat) => j <= 2 /\ ∀ i : Nat, i < j -> ∀ d, ([3, 4] : List Int)[i]? = some d -> d ∉ A) (fun (j : Nat) => 2 - j) 0 (fun j hk => ?_) (hJ := by
    exact ⟨by omega, fun i hi => absurd hi (by omega)⟩)
   obtain ⟨hj1, hj2⟩ := hk;apply yb;refine yd ?_;apply ye;refine yj rfl ?_ ?_<;>intro hc15
   ·obtain ⟨x, hx⟩ : ∃ x, ([3, 4] : List Int)[j]? = some x := ⟨_, lgg (by simp; omega)⟩;have hx2 : ([3, 4] : List Int)[(j : Int).toNat]? = some x := by simpa using hx
    apply yf;apply ye;apply X.block;apply yb;(iterate 3 refine ya ?_);apply yk;(iterate 2 refine ya ?_);refine ym (yP A x (by omega)) ?_;apply Ex.nil;refine yj rfl ?_ ?_<;>intro hc16
    ·have hE : chF s A = some x := by unfold chF; rw [hW]; exact zgi hx (by simpa using hc16) hj2
     apply yb;refine yo ?_;refine X.ret ?_;refine yw ?_ ?_;all_goals (rw [hE]; rfl)
    apply yf;apply yc;refine yg ?_
    refine yJ (j + 1) (hJ := by
     exact ⟨by omega, zeA hx (by simpa using hc16) hj2⟩)
   ·have hj3 : j = 2 := by omega
    subst hj3;have hE : chF s A = none := by unfold chF; rw [hW]; exact zez hj2
    apply X.exit;apply yb;refine yg ?_;refine X.ret ?_;refine yw ?_ ?_;all_goals (rw [hE]; rfl)
 ·exfalso; have a := hk3 (by omega); have b := hk4 (by omega); have c := hk6 (by omega); omega
end Go.Rse
namespace Go.Rse
open Go Go.Proofs
attribute [local irreducible] Pur yD yF Ex X Fn Imp LeV LeB FnO It yH FnW FnOW
attribute [local irreducible] stK okJ alK alQ chN chL segV segE unT
set_option maxHeartbeats 2000000 in
theorem zeB (m : Mn) (k : Int) (l : List Ite) (M : List Int) (h0 : -9223372036854775808 <= k) (h1 : k <= 9223372036854775807) (hl : l.length <= 1000000) (hM : M.length <= 4000000) (hE : segE m k l = 0) (hX : (decide (((segV m k l).length : Int) <= (M.length : Int))) = false) (hok : okJ (unT m k) k (segV m k l) l M M.length = true) (hN : ∀ s ∈ segV m k l, 0 <= s.Count.N) (hMS : M.length <= (segV m k l).length) : FnO Tryz.prog 310 [mnA m, iv k, itsA l, yl M] [] [] (.tup [.own 42, iv 0]) [(42, .row intE (alK (unT m k) k (segV m k l) l M M.length) 3 1)] := by
 have hbl := zci m k l;have hu := zkW (zkw hE).1;have hSO := zig hE;obtain ⟨s, hs⟩ : ∃ s, (segV m k l)[M.length]? = some s := ⟨_, lgg (by simp at hX; omega)⟩;have hs2 : (segV m k l)[(M.length : Int).toNat]? = some s := by simpa using hs
 have hso := hSO.all s (List.mem_of_getElem? hs);have hsb := zih hso.b (zdF (unT m k) (segV m k l) l M M.length);have hsN := hN s (List.mem_of_getElem? hs);have hsl := zdF (unT m k) (segV m k l) l M M.length;have hae : alQ (unT m k) k (stK (unT m k) (segV m k l) l M M.length).1 (stK (unT m k) (segV m k l) l M M.length).2 s = alK (unT m k) k (segV m k l) l M M.length := by unfold alK; rw [show (segV m k l).getD M.length default = s by rw [List.getD_eq_getElem?_getD, hs]; rfl]
 refine FnO.introX (ts := [(0, mnA m), (1, iv k), (2, itsA l), (3, yl M)]) (rv := [.tmp 8, .tmp 9]) (n := 43) (cs := []) (by kernel_rfl) Tryz.func310 rfl Tryz.ntmps310 rfl rfl (by simp) rfl rfl rfl rfl (fun g w d vs => ?_);apply yb;refine yA ?_;iterate 2 refine ya ?_
 apply yk;iterate 3 refine ya ?_
 refine zaO [(36, 2000000), (30, 2000001), (34, 2000002)] (zat m k l h0 h1 hl hE) ?_;iterate 6 refine ya ?_
 refine yd ?_;apply ye;apply yb;refine yg ?_;refine yj rfl ?_ ?_<;>intro hc1
 ·exact absurd rfl hc1
 apply yf;iterate 2 apply ye
 have hg5 : ((decide (((segV m k l).length : Int) <= (M.length : Int))) == false) = true := by rw [hX]; rfl
 ·apply yc;iterate 6 refine ya ?_
  iterate 3 refine zR ?_
  refine zei rfl rfl hg5 ?_;refine zaO [(2000000, 2000000), (2000001, 2000001), (2000002, 2000002)] (zaR (unT m k) k (segV m k l) l M hSO hN hMS hl (by omega) (by omega) (by omega) hok) ?_;refine zR ?_;refine yd ?_;refine yj rfl ?_ ?_<;>intro hc2
  ·first | (exact absurd hc2.2 (by decide)) | (cases hc2; done) | (exact absurd hc2 (by simp [hX])) | (simp [hX] at hc2; done) | (rcases hc2 with h | h <;> first | (cases h; done) | (exact absurd h (by simpa using hX)) | (simp [hX] at h; done) | (exact absurd h (by decide)))
  apply yf;apply yb;iterate 6 refine ya ?_
  refine Ex.stepA (zf7 (ι := Nat) (stF := fun b => ⟨[(36, .ept (fun _ : Unit => [.sl itE (stK (unT m k) (segV m k l) l M M.length).1, iv k, iv (unT m k).N, iv (unT m k).D, .val (.map (some b))]) () 0), (41, smA s)], []⟩) 42 (fun g a w hr => znw (k := 2000002) rfl (fun b => (Imp.freeze (k := 2000001) rfl).trans ((zi (k := 2000000) rfl rfl).trans yn)) (fun _ => rfl) (fun _ => rfl) hr) (fun b => zay (stK (unT m k) (segV m k l) l M M.length).1 k (unT m k) b (stK (unT m k) (segV m k l) l M M.length).2 s hsb (by omega) (by omega) (by omega) hsN)) rfl rfl ?_;refine yg ?_;refine X.ret ?_;refine zfi (st' := ⟨[(8, .own 42), (9, iv 0)], [(1000001, .hold vs []), (42, .row intE (alK (unT m k) k (segV m k l) l M M.length) 3 1)]⟩) (by first | exact yn | exact yp) ?_;refine zhY.mk [(8, .own 42), (9, iv 0)] [] (.inr rfl) (.many (by decide) (.cons (.tmp rfl (LeV.eq ?_)) (.cons (.tmp rfl (LeV.eq ?_)) .nil)));all_goals (rfl)
end Go.Rse
namespace Go.Rse
open Go Go.RowKit
section
variable {P : Program} {C : Ctx} {st : St} {ty : TypeId}
theorem zod {fop : Operand} {args : Array Operand} {ts : Array TypeId} {f : FuncId} {caps xs az fl : List AV} {α : Type} {enc : α -> List AV} {l : List α} {E s q : Nat} {stF : St} (k : Nat) (hi : Imp C st stF) (h : FnO P f az [] [] (.tup (.own q :: fl)) [(q, .row enc l E s)])
 (hfl : ∀ x, AV.flat.flatL (enc x) = true := by intro x; rfl) (hff : AV.flat.flatL fl = true := by rfl) (hf : ev stF fop = some (.fn f caps) := by rfl) (hx : evs stF args.toList = some xs := by rfl) (hle : LeL (xs ++ caps) az := by exact LeL.refl _) :
 yD P C (.call { callee := .value fop, args := args, argTypes := ts }) ty st (.tup (.own k :: fl)) (some (k, .row enc l E s)) := fun g a w dst pos af gd hr0 K hK => by
 obtain ⟨gF, hrF⟩ := hi g a w hr0;obtain ⟨us, e, hl1, hu⟩ := zbO (yy hrF hf);have hargs := zdi hrF hx;have hall : RVL gF.I gF.ρ az (args.toList.map a.eval ++ us) := hle.rvl (hargs.append ⟨hl1, hu⟩);obtain ⟨dc, hdc, _⟩ := zbT gF.O w.heap.size [] hrF.sat.ob.1;have h0 := h.2 dc gF.ρ gF.I gF.O w _ ⟨hrF.sat.im, hrF.sat.ob, fun k B hB => by simp [lk] at hB⟩ hall;have e1 : (args.toList.map a.eval ++ us).toArray = args.map a.eval ++ us.toArray := by simp [← Array.toList_map]
 rw [e1] at h0
 have e2 : (execOp a.eval { dst := dst, op := .call { callee := .value fop, args := args, argTypes := ts }, type := ty, pos := pos, after := af, guard := gd }).run P w = .ok (.enter f (args.map a.eval ++ us.toArray)) w := by
  simp only [execOp, resolve, e, Deferred.ofValue, Sem.run_bind, Sem.run_pure, Result.andThen_ok, invoke, zD h.1];simp
 unfold wp1;rw [e2];refine Calls.mono h0 ?_
 rintro e w' ⟨v, ρ', I', O', rfl, hs, hv, hx1, _⟩
 refine ⟨v, rfl, ?_⟩
 have hgr : Grow w w' := ⟨hx1.os, hx1.tape, hx1.output, hx1.drawn, hx1.size, fun b hb => (hx1.keep b hb (fun hk => by
  rcases hk with hk | ⟨n, hk⟩
  ·exact absurd hk (Nat.not_le.2 hb)
  ·exact hdc b n hk) (fun ⟨y, n, hy, _⟩ => by simp at hy)).1⟩
 cases hv with
 | tup _ vs hl hvv =>
 cases vs with
 | nil => simp at hl
 | cons v0 vr =>
 have hv0 : RV I' ρ' (.own q) v0 := hvv 0 _ _ (by rfl) (by rfl);let g3 : Gh := { ρ := fun n => if n = k then v0 else g.ρ n, I := g.I, O := fun b => if b < w.heap.size then g.O b else (match O' b with | some (y, n) => if y = dc /\ n = q then some (C.d, k) else none | none => none) };have hO3 : ∀ b, b < w.heap.size -> g3.O b = g.O b := fun b hb => by simp [g3, hb]
 have hvk : ρ' q = v0 := zO hv0;obtain ⟨xs', p1, p2, p3, p4⟩ := hs.blk q (.row enc l E s) (by simp [yq])
 have hnew : ∀ b, yV (ρ' q) = some b -> O' b = some (dc, q) /\ w.heap.size <= b := fun b hb => by
  obtain ⟨q1, q2⟩ := p4 b hb;refine ⟨q1, ?_⟩;rcases q2 with q2 | ⟨n, q2⟩
  ·exact q2
  ·exact absurd q2 (hdc b n)
 have him : ImOB g3 w' := by
  refine ⟨fun b o u hI => ?_, fun b p hO => ?_, hr0.sat.ob.2⟩
  ·obtain ⟨q1, q2⟩ := hr0.sat.im b o u hI;exact ⟨hgr.cell q1, by rw [hO3 b (zbd q1)]; exact q2⟩
  ·rcases Nat.lt_or_ge b w.heap.size with hb | hb
   ·exact Nat.lt_of_lt_of_le hb hgr.size
   ·simp only [g3, Nat.not_lt.2 hb, if_false] at hO;cases hO' : O' b with
    | none => simp [hO'] at hO
    | some q => exact hs.ob.1 b q hO'
 refine hK _ w' g3 ⟨Im.le_refl _, fun n hn => ?_, hO3, hgr⟩ ?_ him (fun k' B hB => ?_)
 ·have : n ≠ k := fun e => hn (by simp [e])
  simp [g3, this]
 ·refine .tup _ _ (by simpa using hl) (fun j c u hc hu' => ?_)
  match j with
  | 0 =>
   simp at hc hu'; subst hc; subst hu';rcases p1.2 with ⟨e, _⟩ | ⟨b, cap, cur, e, _⟩ <;>
   ·have e : ρ' q = _ := e;rw [hvk] at e;rw [e];exact .own k _ _ _ (by simp [g3, e])
  | j + 1 =>
   have hc1 : fl[j]? = some c := by simpa using hc
   exact (hvv (j + 1) c u (by simpa using hc1) hu').flat (zas hff hc1)
 ·injection hB with hB; injection hB with e3 e4; subst e3; subst e4;have hk3 : g3.ρ k = v0 := by simp [g3]
  refine ⟨xs', by rw [hk3, ← hvk]; exact p1, p2, fun j x q c u hx hc hu => (p3 j x q c u hx hc hu).flat (zas (hfl x) hc), fun b hb => ?_⟩;rw [hk3, ← hvk] at hb;obtain ⟨q1, q2⟩ := hnew b hb;refine ⟨by simp [g3, Nat.not_lt.2 q2, q1], .inl (Nat.le_trans hr0.ext.size q2)⟩
end
end Go.Rse
