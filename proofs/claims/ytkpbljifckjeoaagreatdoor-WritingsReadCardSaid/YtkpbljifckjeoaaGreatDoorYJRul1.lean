/-
  Walks.
-/
import Derived.Test.YtkpbljifckjeoaaGreatDoorYJLev6
set_option linter.unusedSimpArgs false
set_option linter.unusedVariables false
namespace Go.Rse
open Go Go.Proofs
section
instance : ZcK Tryz.prog 264 [.nilf, .int .i64 0, .int .i64 0] := ⟨⟨_, zwz, rfl⟩⟩
attribute [local irreducible] Pur yr yw Ex X Fn Imp LeV LeB FnO It yx FnW FnOW
theorem zgX {L A : List Int} {j : Nat} {c : Int} (hj : L[j]? = some c) (hc : c ∈ A) (h : ∀ i : Nat, i < j -> ∀ d, L[i]? = some d -> d ∉ A) : L.find? (fun c => decide (c ∈ A)) = some c := by
 rw [List.find?_eq_some_iff_append];refine ⟨by simpa using hc, L.take j, L.drop (j + 1), ?_, fun a ha => ?_⟩
 ·have hl := (List.getElem?_eq_some_iff.1 hj);rw [← hl.2, List.getElem_cons_drop, List.take_append_drop]
 ·obtain ⟨i, hi, e⟩ := List.getElem_of_mem ha;rw [List.length_take] at hi;have := h i (by omega) a (by rw [← e, List.getElem_take, lgg]);simpa using this
theorem ze6 {L A : List Int} (h : ∀ i : Nat, i < L.length -> ∀ d, L[i]? = some d -> d ∉ A) : L.find? (fun c => decide (c ∈ A)) = none := by
 rw [List.find?_eq_none];intro c hc;obtain ⟨i, hi, e⟩ := List.getElem_of_mem hc;have := h i hi c (by rw [← e, lgg]);simpa using this
theorem ze7 {L A : List Int} {j : Nat} {c : Int} (hj : L[j]? = some c) (hc : c ∉ A) (h : ∀ i : Nat, i < j -> ∀ d, L[i]? = some d -> d ∉ A) : ∀ i : Nat, i < j + 1 -> ∀ d, L[i]? = some d -> d ∉ A := by
 intro i hi d hd;by_cases e : i = j
 ·subst e; rw [hj] at hd; injection hd with hd; subst hd; exact hc
 ·exact h i (by omega) d hd
theorem znR (p : Int -> Bool) (a : Int) : [a, a].find? p = [a].find? p := by
 simp only [List.find?]; cases p a <;> rfl
theorem zbh (s : Sgm) (n : Int) (hN : 0 <= s.Count.N) : Fn Tryz.prog 233 [smA s, .ept (fun _ : Unit => [iv n]) () 0] (.bool (decide (s.Count.N % 3 = n))) := by
 refine Fn.go Tryz.func233 Tryz.ntmps233 (fun g w d => ?_);refine gq ?_;all_goals (first | rfl | (simp_all; done))
theorem zbO (n : Int) : Fn Tryz.prog 232 [iv n] (.fn 233 [.ept (fun _ : Unit => [iv n]) () 0]) := by
 refine Fn.go Tryz.func232 Tryz.ntmps232 (fun g w d => ?_);apply yg;refine zbB ?_;refine ya ?_;apply yI;refine zm ?_;refine X.ret ?_;refine RetQ.imp (yR (k := 1) rfl rfl) ?_;refine gq ?_;all_goals (first | rfl | (simp_all; done))
theorem zgY (s : Sgm) : Fn Tryz.prog 234 [smA s] (.bool s.Free) := by
 refine Fn.go Tryz.func234 Tryz.ntmps234 (fun g w d => ?_);refine gq ?_;all_goals (first | rfl | (simp_all; done))
theorem zgZ (s : Sgm) : Fn Tryz.prog 235 [smA s] (.bool (decide (s.Count.N = 2))) := by
 refine Fn.go Tryz.func235 Tryz.ntmps235 (fun g w d => ?_);refine gq ?_;all_goals (first | rfl | (simp_all; done))
theorem zi6  : Fn Tryz.prog 210 [] (.agg [.fn 234 [], iv 1, iv 0, .fn 233 [.ept (fun _ : Unit => [iv 0]) () 0], iv 0, iv 0, .fn 233 [.ept (fun _ : Unit => [iv 1]) () 0], iv 1, iv 2, .fn 235 [], iv 4, iv 3, .fn 233 [.ept (fun _ : Unit => [iv 2]) () 0], iv 3, iv 4]) := by
 refine Fn.go Tryz.func210 Tryz.ntmps210 (fun g w d => ?_);refine gq ?_;refine yb (zbO 0) ?_;refine gq ?_;refine yb (zbO 1) ?_;refine gq ?_;refine yb (zbO 2) ?_;refine gq ?_;refine RetQ.ret (.one (.cellA rfl rfl rfl rfl zrP (LeV.eq ?_)));all_goals (first | rfl | (simp_all; done))
attribute [local irreducible] chF wnL
set_option maxHeartbeats 2000000 in
theorem zhW (s : Sgm) (A : List Int) (hN : 0 <= s.Count.N) (hA : A.length <= 1000000) : Fn Tryz.prog 177 [smA s, yf A] (.tup [iv ((chF s A).getD 0), .bool (chF s A).isSome]) := by
 refine Fn.go Tryz.func177 Tryz.ntmps177 (fun g w d => ?_);refine gq ?_;refine yb zi6 ?_;refine gq ?_
 refine yS (ι := Nat) (fun (n : Nat) => [(1, yf A), (2, .ptr 2 0 0 0), (4, iv 0), (5, .bool false), (10, .agg [.fn 234 [], iv 1, iv 0, .fn 233 [.ept (fun _ : Unit => [iv 0]) () 0], iv 0, iv 0, .fn 233 [.ept (fun _ : Unit => [iv 1]) () 0], iv 1, iv 2, .fn 235 [], iv 4, iv 3, .fn 233 [.ept (fun _ : Unit => [iv 2]) () 0], iv 3, iv 4]), (11, iv (n : Int))]) (fun (n : Nat) => [(2, .box (smE s) 232)]) (fun (n : Nat) => n <= 5 /\ (1 <= n -> ¬ s.Free = true) /\ (2 <= n -> ¬ s.Count.N % 3 = 0) /\ (3 <= n -> ¬ s.Count.N % 3 = 1) /\ (4 <= n -> ¬ s.Count.N = 2) /\ (5 <= n -> ¬ s.Count.N % 3 = 2)) (fun (n : Nat) => 5 - n) 0 (fun n hk => ?_) (hJ := by
  exact ⟨by omega, by omega, by omega, by omega, by omega, by omega⟩)
 obtain ⟨hk1, hk2, hk3, hk4, hk5, hk6⟩ := hk;refine gd ?_ ?_<;>intro hc1
 ·apply yp;apply yl;apply X.block;apply yl;obtain hn | hn | hn | hn | hn : n = 0 \/ n = 1 \/ n = 2 \/ n = 3 \/ n = 4 := by omega
  ·have hpt : (([.fn 234 [], iv 1, iv 0, .fn 233 [.ept (fun _ : Unit => [iv 0]) () 0], iv 0, iv 0, .fn 233 [.ept (fun _ : Unit => [iv 1]) () 0], iv 1, iv 2, .fn 235 [], iv 4, iv 3, .fn 233 [.ept (fun _ : Unit => [iv 2]) () 0], iv 3, iv 4] : List AV).drop (((n : Nat) : Int).toNat * 3)).take 3 = [.fn 234 [], iv 1, iv 0] := by rw [hn]; rfl
   apply ym;refine ya (hs := by exact zx ArK.h TyK.h rfl rfl (by omega) (by omega) hpt) ?_;refine gq ?_;refine yb (zgY s) ?_;refine gd ?_ ?_<;>intro hc2
   ·have hx0 : ¬ s.Free = true := by first | exact hc2 | (rw [hc2]; decide) | (simp at hc2; simp [hc2]; done) | omega
    refine gq ?_
    refine yz (n + 1) (hJ := by
     refine ⟨by omega, ?_, ?_, ?_, ?_, ?_⟩ <;> intro h6 <;> first | assumption | (exact absurd h6 (by omega)) | (exact hk2 (by omega)) | (exact hk3 (by omega)) | (exact hk4 (by omega)) | (exact hk5 (by omega)) | (exact hk6 (by omega)))
   have hy : s.Free = true := by first | exact hc2 | (simp at hc2; exact hc2) | omega
   have hW : (wnL s).find? (fun c => decide (c ∈ A)) = [(1 : Int), 0].find? (fun c => decide (c ∈ A)) := by
    have h0 := hk2;rw [show wnL s = [1, 0] by unfold wnL; simp_all]
   refine gq ?_;refine yJ intE [_, _] ?_;refine gq ?_
   refine yS (ι := Nat) (fun (j : Nat) => [(1, yf A), (2, .ptr 2 0 0 0), (4, iv 0), (5, .bool false), (10, .agg [.fn 234 [], iv 1, iv 0, .fn 233 [.ept (fun _ : Unit => [iv 0]) () 0], iv 0, iv 0, .fn 233 [.ept (fun _ : Unit => [iv 1]) () 0], iv 1, iv 2, .fn 235 [], iv 4, iv 3, .fn 233 [.ept (fun _ : Unit => [iv 2]) () 0], iv 3, iv 4]), (11, iv (n : Int)), (23, .own 23), (24, iv 2), (25, iv (j : Int))]) (fun (j : Nat) => [(2, .box (smE s) 232), (23, .row intE [1, 0] 3 1)]) (fun (j : Nat) => j <= 2 /\ ∀ i : Nat, i < j -> ∀ d, ([1, 0] : List Int)[i]? = some d -> d ∉ A) (fun (j : Nat) => 2 - j) 0 (fun j hk => ?_) (hJ := by
    exact ⟨by omega, fun i hi => absurd hi (by omega)⟩)
   obtain ⟨hj1, hj2⟩ := hk;refine gd ?_ ?_<;>intro hc3
   ·obtain ⟨x, hx⟩ : ∃ x, ([1, 0] : List Int)[j]? = some x := ⟨_, lgg (by simp; omega)⟩;have hx2 : ([1, 0] : List Int)[(j : Int).toNat]? = some x := by simpa using hx
    refine gq ?_;refine yb (yK A x (by omega)) ?_;refine gd ?_ ?_<;>intro hc4
    ·have hE : chF s A = some x := by unfold chF; rw [hW]; exact zgX hx (by simpa using hc4) hj2
     refine gq ?_;refine yi ?_ ?_;all_goals (rw [hE]; rfl)
    refine gq ?_
    refine yz (j + 1) (hJ := by
     exact ⟨by omega, ze7 hx (by simpa using hc4) hj2⟩)
   ·have hj3 : j = 2 := by omega
    subst hj3;have hE : chF s A = none := by unfold chF; rw [hW]; exact ze6 hj2
    refine gq ?_;refine yi ?_ ?_;all_goals (rw [hE]; rfl)
  ·have hpt : (([.fn 234 [], iv 1, iv 0, .fn 233 [.ept (fun _ : Unit => [iv 0]) () 0], iv 0, iv 0, .fn 233 [.ept (fun _ : Unit => [iv 1]) () 0], iv 1, iv 2, .fn 235 [], iv 4, iv 3, .fn 233 [.ept (fun _ : Unit => [iv 2]) () 0], iv 3, iv 4] : List AV).drop (((n : Nat) : Int).toNat * 3)).take 3 = [.fn 233 [.ept (fun _ : Unit => [iv 0]) () 0], iv 0, iv 0] := by rw [hn]; rfl
   apply ym;refine ya (hs := by exact zx ArK.h TyK.h rfl rfl (by omega) (by omega) hpt) ?_;refine gq ?_;refine yb (zbh s 0 hN) ?_;refine gd ?_ ?_<;>intro hc5
   ·have hx1 : ¬ s.Count.N % 3 = 0 := by first | exact hc5 | (rw [hc5]; decide) | (simp at hc5; simp [hc5]; done) | omega
    refine gq ?_
    refine yz (n + 1) (hJ := by
     refine ⟨by omega, ?_, ?_, ?_, ?_, ?_⟩ <;> intro h6 <;> first | assumption | (exact absurd h6 (by omega)) | (exact hk2 (by omega)) | (exact hk3 (by omega)) | (exact hk4 (by omega)) | (exact hk5 (by omega)) | (exact hk6 (by omega)))
   have hy : s.Count.N % 3 = 0 := by first | exact hc5 | (simp at hc5; exact hc5) | omega
   have hW : (wnL s).find? (fun c => decide (c ∈ A)) = [(0 : Int), 0].find? (fun c => decide (c ∈ A)) := by
    have h0 := hk2;rw [znR, show wnL s = [0] by unfold wnL; simp_all]
   refine gq ?_;refine yJ intE [_, _] ?_;refine gq ?_
   refine yS (ι := Nat) (fun (j : Nat) => [(1, yf A), (2, .ptr 2 0 0 0), (4, iv 0), (5, .bool false), (10, .agg [.fn 234 [], iv 1, iv 0, .fn 233 [.ept (fun _ : Unit => [iv 0]) () 0], iv 0, iv 0, .fn 233 [.ept (fun _ : Unit => [iv 1]) () 0], iv 1, iv 2, .fn 235 [], iv 4, iv 3, .fn 233 [.ept (fun _ : Unit => [iv 2]) () 0], iv 3, iv 4]), (11, iv (n : Int)), (23, .own 23), (24, iv 2), (25, iv (j : Int))]) (fun (j : Nat) => [(2, .box (smE s) 232), (23, .row intE [0, 0] 3 1)]) (fun (j : Nat) => j <= 2 /\ ∀ i : Nat, i < j -> ∀ d, ([0, 0] : List Int)[i]? = some d -> d ∉ A) (fun (j : Nat) => 2 - j) 0 (fun j hk => ?_) (hJ := by
    exact ⟨by omega, fun i hi => absurd hi (by omega)⟩)
   obtain ⟨hj1, hj2⟩ := hk;refine gd ?_ ?_<;>intro hc6
   ·obtain ⟨x, hx⟩ : ∃ x, ([0, 0] : List Int)[j]? = some x := ⟨_, lgg (by simp; omega)⟩;have hx2 : ([0, 0] : List Int)[(j : Int).toNat]? = some x := by simpa using hx
    refine gq ?_;refine yb (yK A x (by omega)) ?_;refine gd ?_ ?_<;>intro hc7
    ·have hE : chF s A = some x := by unfold chF; rw [hW]; exact zgX hx (by simpa using hc7) hj2
     refine gq ?_;refine yi ?_ ?_;all_goals (rw [hE]; rfl)
    refine gq ?_
    refine yz (j + 1) (hJ := by
     exact ⟨by omega, ze7 hx (by simpa using hc7) hj2⟩)
   ·have hj3 : j = 2 := by omega
    subst hj3;have hE : chF s A = none := by unfold chF; rw [hW]; exact ze6 hj2
    refine gq ?_;refine yi ?_ ?_;all_goals (rw [hE]; rfl)
  ·have hpt : (([.fn 234 [], iv 1, iv 0, .fn 233 [.ept (fun _ : Unit => [iv 0]) () 0], iv 0, iv 0, .fn 233 [.ept (fun _ : Unit => [iv 1]) () 0], iv 1, iv 2, .fn 235 [], iv 4, iv 3, .fn 233 [.ept (fun _ : Unit => [iv 2]) () 0], iv 3, iv 4] : List AV).drop (((n : Nat) : Int).toNat * 3)).take 3 = [.fn 233 [.ept (fun _ : Unit => [iv 1]) () 0], iv 1, iv 2] := by rw [hn]; rfl
   apply ym;refine ya (hs := by exact zx ArK.h TyK.h rfl rfl (by omega) (by omega) hpt) ?_;refine gq ?_;refine yb (zbh s 1 hN) ?_;refine gd ?_ ?_<;>intro hc8
   ·have hx2 : ¬ s.Count.N % 3 = 1 := by first | exact hc8 | (rw [hc8]; decide) | (simp at hc8; simp [hc8]; done) | omega
    refine gq ?_
    refine yz (n + 1) (hJ := by
     refine ⟨by omega, ?_, ?_, ?_, ?_, ?_⟩ <;> intro h6 <;> first | assumption | (exact absurd h6 (by omega)) | (exact hk2 (by omega)) | (exact hk3 (by omega)) | (exact hk4 (by omega)) | (exact hk5 (by omega)) | (exact hk6 (by omega)))
   have hy : s.Count.N % 3 = 1 := by first | exact hc8 | (simp at hc8; exact hc8) | omega
   have hW : (wnL s).find? (fun c => decide (c ∈ A)) = [(1 : Int), 2].find? (fun c => decide (c ∈ A)) := by
    have h0 := hk2;rw [show wnL s = [1, 2] by unfold wnL; simp_all]
   refine gq ?_;refine yJ intE [_, _] ?_;refine gq ?_
   refine yS (ι := Nat) (fun (j : Nat) => [(1, yf A), (2, .ptr 2 0 0 0), (4, iv 0), (5, .bool false), (10, .agg [.fn 234 [], iv 1, iv 0, .fn 233 [.ept (fun _ : Unit => [iv 0]) () 0], iv 0, iv 0, .fn 233 [.ept (fun _ : Unit => [iv 1]) () 0], iv 1, iv 2, .fn 235 [], iv 4, iv 3, .fn 233 [.ept (fun _ : Unit => [iv 2]) () 0], iv 3, iv 4]), (11, iv (n : Int)), (23, .own 23), (24, iv 2), (25, iv (j : Int))]) (fun (j : Nat) => [(2, .box (smE s) 232), (23, .row intE [1, 2] 3 1)]) (fun (j : Nat) => j <= 2 /\ ∀ i : Nat, i < j -> ∀ d, ([1, 2] : List Int)[i]? = some d -> d ∉ A) (fun (j : Nat) => 2 - j) 0 (fun j hk => ?_) (hJ := by
    exact ⟨by omega, fun i hi => absurd hi (by omega)⟩)
   obtain ⟨hj1, hj2⟩ := hk;refine gd ?_ ?_<;>intro hc9
   ·obtain ⟨x, hx⟩ : ∃ x, ([1, 2] : List Int)[j]? = some x := ⟨_, lgg (by simp; omega)⟩;have hx2 : ([1, 2] : List Int)[(j : Int).toNat]? = some x := by simpa using hx
    refine gq ?_;refine yb (yK A x (by omega)) ?_;refine gd ?_ ?_<;>intro hc10
    ·have hE : chF s A = some x := by unfold chF; rw [hW]; exact zgX hx (by simpa using hc10) hj2
     refine gq ?_;refine yi ?_ ?_;all_goals (rw [hE]; rfl)
    refine gq ?_
    refine yz (j + 1) (hJ := by
     exact ⟨by omega, ze7 hx (by simpa using hc10) hj2⟩)
   ·have hj3 : j = 2 := by omega
    subst hj3;have hE : chF s A = none := by unfold chF; rw [hW]; exact ze6 hj2
    refine gq ?_;refine yi ?_ ?_;all_goals (rw [hE]; rfl)
  ·have hpt : (([.fn 234 [], iv 1, iv 0, .fn 233 [.ept (fun _ : Unit => [iv 0]) () 0], iv 0, iv 0, .fn 233 [.ept (fun _ : Unit => [iv 1]) () 0], iv 1, iv 2, .fn 235 [], iv 4, iv 3, .fn 233 [.ept (fun _ : Unit => [iv 2]) () 0], iv 3, iv 4] : List AV).drop (((n : Nat) : Int).toNat * 3)).take 3 = [.fn 235 [], iv 4, iv 3] := by rw [hn]; rfl
   apply ym;refine ya (hs := by exact zx ArK.h TyK.h rfl rfl (by omega) (by omega) hpt) ?_;refine gq ?_;refine yb (zgZ s) ?_;refine gd ?_ ?_<;>intro hc11
   ·have hx3 : ¬ s.Count.N = 2 := by first | exact hc11 | (rw [hc11]; decide) | (simp at hc11; simp [hc11]; done) | omega
    refine gq ?_
    refine yz (n + 1) (hJ := by
     refine ⟨by omega, ?_, ?_, ?_, ?_, ?_⟩ <;> intro h6 <;> first | assumption | (exact absurd h6 (by omega)) | (exact hk2 (by omega)) | (exact hk3 (by omega)) | (exact hk4 (by omega)) | (exact hk5 (by omega)) | (exact hk6 (by omega)))
   have hy : s.Count.N = 2 := by first | exact hc11 | (simp at hc11; exact hc11) | omega
   have hW : (wnL s).find? (fun c => decide (c ∈ A)) = [(4 : Int), 3].find? (fun c => decide (c ∈ A)) := by
    have h0 := hk2;rw [show wnL s = [4, 3] by unfold wnL; simp_all]
   refine gq ?_;refine yJ intE [_, _] ?_;refine gq ?_
   refine yS (ι := Nat) (fun (j : Nat) => [(1, yf A), (2, .ptr 2 0 0 0), (4, iv 0), (5, .bool false), (10, .agg [.fn 234 [], iv 1, iv 0, .fn 233 [.ept (fun _ : Unit => [iv 0]) () 0], iv 0, iv 0, .fn 233 [.ept (fun _ : Unit => [iv 1]) () 0], iv 1, iv 2, .fn 235 [], iv 4, iv 3, .fn 233 [.ept (fun _ : Unit => [iv 2]) () 0], iv 3, iv 4]), (11, iv (n : Int)), (23, .own 23), (24, iv 2), (25, iv (j : Int))]) (fun (j : Nat) => [(2, .box (smE s) 232), (23, .row intE [4, 3] 3 1)]) (fun (j : Nat) => j <= 2 /\ ∀ i : Nat, i < j -> ∀ d, ([4, 3] : List Int)[i]? = some d -> d ∉ A) (fun (j : Nat) => 2 - j) 0 (fun j hk => ?_) (hJ := by
    exact ⟨by omega, fun i hi => absurd hi (by omega)⟩)
   obtain ⟨hj1, hj2⟩ := hk;refine gd ?_ ?_<;>intro hc12
   ·obtain ⟨x, hx⟩ : ∃ x, ([4, 3] : List Int)[j]? = some x := ⟨_, lgg (by simp; omega)⟩;have hx2 : ([4, 3] : List Int)[(j : Int).toNat]? = some x := by simpa using hx
    refine gq ?_;refine yb (yK A x (by omega)) ?_;refine gd ?_ ?_<;>intro hc13
    ·have hE : chF s A = some x := by unfold chF; rw [hW]; exact zgX hx (by simpa using hc13) hj2
     refine gq ?_;refine yi ?_ ?_;all_goals (rw [hE]; rfl)
    refine gq ?_
    refine yz (j + 1) (hJ := by
     exact ⟨by omega, ze7 hx (by simpa using hc13) hj2⟩)
   ·have hj3 : j = 2 := by omega
    subst hj3;have hE : chF s A = none := by unfold chF; rw [hW]; exact ze6 hj2
    refine gq ?_;refine yi ?_ ?_;all_goals (rw [hE]; rfl)
  ·have hpt : (([.fn 234 [], iv 1, iv 0, .fn 233 [.ept (fun _ : Unit => [iv 0]) () 0], iv 0, iv 0, .fn 233 [.ept (fun _ : Unit => [iv 1]) () 0], iv 1, iv 2, .fn 235 [], iv 4, iv 3, .fn 233 [.ept (fun _ : Unit => [iv 2]) () 0], iv 3, iv 4] : List AV).drop (((n : Nat) : Int).toNat * 3)).take 3 = [.fn 233 [.ept (fun _ : Unit => [iv 2]) () 0], iv 3, iv 4] := by rw [hn]; rfl
   apply ym;refine ya (hs := by exact zx ArK.h TyK.h rfl rfl (by omega) (by omega) hpt) ?_;refine gq ?_;refine yb (zbh s 2 hN) ?_;refine gd ?_ ?_<;>intro hc14
   ·have hx4 : ¬ s.Count.N % 3 = 2 := by first | exact hc14 | (rw [hc14]; decide) | (simp at hc14; simp [hc14]; done) | omega
    refine gq ?_
    refine yz (n + 1) (hJ := by
     refine ⟨by omega, ?_, ?_, ?_, ?_, ?_⟩ <;> intro h6 <;> first | assumption | (exact absurd h6 (by omega)) | (exact hk2 (by omega)) | (exact hk3 (by omega)) | (exact hk4 (by omega)) | (exact hk5 (by omega)) | (exact hk6 (by omega)))
   have hy : s.Count.N % 3 = 2 := by first | exact hc14 | (simp at hc14; exact hc14) | omega
   have hW : (wnL s).find? (fun c => decide (c ∈ A)) = [(3 : Int), 4].find? (fun c => decide (c ∈ A)) := by
    have h0 := hk2;rw [show wnL s = [3, 4] by unfold wnL; simp_all]
   refine gq ?_;refine yJ intE [_, _] ?_;refine gq ?_
   refine yS (ι := Nat) (fun (j : Nat) => [(1, yf A), (2, .ptr 2 0 0 0), (4, iv 0), (5, .bool false), (10, .agg [.fn 234 [], iv 1, iv 0, .fn 233 [.ept (fun _ : Unit => [iv 0]) () 0], iv 0, iv 0, .fn 233 [.ept (fun _ : Unit => [iv 1]) () 0], iv 1, iv 2, .fn 235 [], iv 4, iv 3, .fn 233 [.ept (fun _ : Unit => [iv 2]) () 0], iv 3, iv 4]), (11, iv (n : Int)), (23, .own 23), (24, iv 2), (25, iv (j : Int))]) (fun (j : Nat) => [(2, .box (smE s) 232), (23, .row intE [3, 4] 3 1)]) (fun (j : Nat) => j <= 2 /\ ∀ i : Nat, i < j -> ∀ d, ([3, 4] : List Int)[i]? = some d -> d ∉ A) (fun (j : Nat) => 2 - j) 0 (fun j hk => ?_) (hJ := by
    exact ⟨by omega, fun i hi => absurd hi (by omega)⟩)
   obtain ⟨hj1, hj2⟩ := hk;refine gd ?_ ?_<;>intro hc15
   ·obtain ⟨x, hx⟩ : ∃ x, ([3, 4] : List Int)[j]? = some x := ⟨_, lgg (by simp; omega)⟩;have hx2 : ([3, 4] : List Int)[(j : Int).toNat]? = some x := by simpa using hx
    refine gq ?_;refine yb (yK A x (by omega)) ?_;refine gd ?_ ?_<;>intro hc16
    ·have hE : chF s A = some x := by unfold chF; rw [hW]; exact zgX hx (by simpa using hc16) hj2
     refine gq ?_;refine yi ?_ ?_;all_goals (rw [hE]; rfl)
    refine gq ?_
    refine yz (j + 1) (hJ := by
     exact ⟨by omega, ze7 hx (by simpa using hc16) hj2⟩)
   ·have hj3 : j = 2 := by omega
    subst hj3;have hE : chF s A = none := by unfold chF; rw [hW]; exact ze6 hj2
    refine gq ?_;refine yi ?_ ?_;all_goals (rw [hE]; rfl)
 ·exfalso; have a := hk3 (by omega); have b := hk4 (by omega); have c := hk6 (by omega); omega
end
section
attribute [local irreducible] Pur yr yw Ex X Fn Imp LeV LeB FnO It yx FnW FnOW
attribute [local irreducible] stK okJ alK alQ chN chL segV segE unT
set_option maxHeartbeats 2000000 in
theorem ze8 (m : Mn) (k : Int) (l : List Ite) (M : List Int) (h0 : -9223372036854775808 <= k) (h1 : k <= 9223372036854775807) (hl : l.length <= 1000000) (hM : M.length <= 4000000) (hE : segE m k l = 0) (hX : (decide (((segV m k l).length : Int) <= (M.length : Int))) = false) (hok : okJ (unT m k) k (segV m k l) l M M.length = true) (hN : ∀ s ∈ segV m k l, 0 <= s.Count.N) (hMS : M.length <= (segV m k l).length) : FnO Tryz.prog 176 [mnA m, iv k, itsA l, yf M] [] [] (.tup [.own 42, iv 0]) [(42, .row intE (alK (unT m k) k (segV m k l) l M M.length) 3 1)] := by
 have hbl := zcy m k l;have hu := zl0 (zlv hE).1;have hSO := ziW hE;obtain ⟨s, hs⟩ : ∃ s, (segV m k l)[M.length]? = some s := ⟨_, lgg (by simp at hX; omega)⟩;have hs2 : (segV m k l)[(M.length : Int).toNat]? = some s := by simpa using hs
 have hso := hSO.all s (List.mem_of_getElem? hs);have hsb := ziY hso.b (zd2 (unT m k) (segV m k l) l M M.length);have hsN := hN s (List.mem_of_getElem? hs);have hsl := zd2 (unT m k) (segV m k l) l M M.length;have hae : alQ (unT m k) k (stK (unT m k) (segV m k l) l M M.length).1 (stK (unT m k) (segV m k l) l M M.length).2 s = alK (unT m k) k (segV m k l) l M M.length := by unfold alK; rw [show (segV m k l).getD M.length default = s by rw [List.getD_eq_getElem?_getD, hs]; rfl]
 refine FnO.introX (ts := [(0, mnA m), (1, iv k), (2, itsA l), (3, yf M)]) (rv := [.tmp 8, .tmp 9]) (n := 43) (cs := []) (by kernel_rfl) Tryz.func176 rfl Tryz.ntmps176 rfl rfl (by simp) rfl rfl rfl rfl (fun g w d vs => ?_);refine gq ?_;refine zaF [(36, 2000000), (30, 2000001), (34, 2000002)] (zay m k l h0 h1 hl hE) ?_;refine gd ?_ ?_<;>intro hc1
 ·exact absurd rfl hc1
 apply yp;iterate 2 apply yl
 have hg5 : ((decide (((segV m k l).length : Int) <= (M.length : Int))) == false) = true := by rw [hX]; rfl
 ·apply ym;iterate 6 refine ya ?_
  iterate 3 refine zM ?_
  refine zeO rfl rfl hg5 ?_;refine zaF [(2000000, 2000000), (2000001, 2000001), (2000002, 2000002)] (zaX (unT m k) k (segV m k l) l M hSO hN hMS hl (by omega) (by omega) (by omega) hok) ?_;refine zM ?_;refine gd ?_ ?_<;>intro hc2
  ·first | (exact absurd hc2.2 (by decide)) | (cases hc2; done) | (exact absurd hc2 (by simp [hX])) | (simp [hX] at hc2; done) | (rcases hc2 with h | h <;> first | (cases h; done) | (exact absurd h (by simpa using hX)) | (simp [hX] at h; done) | (exact absurd h (by decide)))
  refine gq ?_;refine Ex.stepA (zgJ (ι := Nat) (stF := fun b => ⟨[(36, .ept (fun _ : Unit => [.sl itE (stK (unT m k) (segV m k l) l M M.length).1, iv k, iv (unT m k).N, iv (unT m k).D, .val (.map (some b))]) () 0), (41, smA s)], []⟩) 42 (fun g a w hr => zoX (k := 2000002) rfl (fun b => (Imp.freeze (k := 2000001) rfl).trans ((yR (k := 2000000) rfl rfl).trans ye)) (fun _ => rfl) (fun _ => rfl) hr) (fun b => zaC (stK (unT m k) (segV m k l) l M M.length).1 k (unT m k) b (stK (unT m k) (segV m k l) l M M.length).2 s hsb (by omega) (by omega) (by omega) hsN)) rfl rfl ?_;refine zm ?_;refine X.ret ?_;refine zfR (st' := ⟨[(8, .own 42), (9, iv 0)], [(1000001, .hold vs []), (42, .row intE (alK (unT m k) k (segV m k l) l M M.length) 3 1)]⟩) (by first | exact ye | exact yd) ?_;refine ziE.mk [(8, .own 42), (9, iv 0)] [] (.inr rfl) (.many (by decide) (.cons (.tmp rfl (LeV.eq ?_)) (.cons (.tmp rfl (LeV.eq ?_)) .nil)));all_goals (rfl)
end
end Go.Rse
namespace Go.Rse
open Go Go.RowKit
section
variable {P : Program} {C : Ctx} {st : St} {ty : TypeId}
theorem zpH {fop : Operand} {args : Array Operand} {ts : Array TypeId} {f : FuncId} {caps xs az fl : List AV} {α : Type} {enc : α -> List AV} {l : List α} {E s q : Nat} {stF : St} (k : Nat) (hi : Imp C st stF) (h : FnO P f az [] [] (.tup (.own q :: fl)) [(q, .row enc l E s)])
 (hfl : ∀ x, AV.flat.flatL (enc x) = true := by intro x; rfl) (hff : AV.flat.flatL fl = true := by rfl) (hf : ev stF fop = some (.fn f caps) := by rfl) (hx : evs stF args.toList = some xs := by rfl) (hle : LeL (xs ++ caps) az := by exact LeL.refl _) :
 yr P C (.call { callee := .value fop, args := args, argTypes := ts }) ty st (.tup (.own k :: fl)) (some (k, .row enc l E s)) := fun g a w dst pos af gd hr0 K hK => by
 obtain ⟨gF, hrF⟩ := hi g a w hr0;obtain ⟨us, e, hl1, hu⟩ := zb2 (yn hrF hf);have hargs := zdG hrF hx;have hall : RVL gF.I gF.ρ az (args.toList.map a.eval ++ us) := hle.rvl (hargs.append ⟨hl1, hu⟩);obtain ⟨dc, hdc, _⟩ := zb8 gF.O w.heap.size [] hrF.sat.ob.1;have h0 := h.2 dc gF.ρ gF.I gF.O w _ ⟨hrF.sat.im, hrF.sat.ob, fun k B hB => by simp [lk] at hB⟩ hall;have e1 : (args.toList.map a.eval ++ us).toArray = args.map a.eval ++ us.toArray := by simp [← Array.toList_map]
 rw [e1] at h0
 have e2 : (execOp a.eval { dst := dst, op := .call { callee := .value fop, args := args, argTypes := ts }, type := ty, pos := pos, after := af, guard := gd }).run P w = .ok (.enter f (args.map a.eval ++ us.toArray)) w := by
  simp only [execOp, resolve, e, Deferred.ofValue, Sem.run_bind, Sem.run_pure, Result.andThen_ok, invoke, zH h.1];simp
 unfold wp1;rw [e2];refine Calls.mono h0 ?_
 rintro e w' ⟨v, ρ', I', O', rfl, hs, hv, hx1, _⟩
 refine ⟨v, rfl, ?_⟩
 have hgr : Grow w w' := ⟨hx1.os, hx1.tape, hx1.output, hx1.drawn, hx1.size, fun b hb => (hx1.keep b hb (fun hk => by
  rcases hk with hk | ⟨n, hk⟩
  ·exact absurd hk (Nat.not_le.2 hb)
  ·exact hdc b n hk) (fun ⟨y, n, hy, _⟩ => by simp at hy)).1⟩
 cases hv with
 | tup _ vs hl hvv =>
 cases vs with
 | nil => simp at hl
 | cons v0 vr =>
 have hv0 : RV I' ρ' (.own q) v0 := hvv 0 _ _ (by rfl) (by rfl);let g3 : Gh := { ρ := fun n => if n = k then v0 else g.ρ n, I := g.I, O := fun b => if b < w.heap.size then g.O b else (match O' b with | some (y, n) => if y = dc /\ n = q then some (C.d, k) else none | none => none) };have hO3 : ∀ b, b < w.heap.size -> g3.O b = g.O b := fun b hb => by simp [g3, hb]
 have hvk : ρ' q = v0 := zU hv0;obtain ⟨xs', p1, p2, p3, p4⟩ := hs.blk q (.row enc l E s) (by simp [yj])
 have hnew : ∀ b, yT (ρ' q) = some b -> O' b = some (dc, q) /\ w.heap.size <= b := fun b hb => by
  obtain ⟨q1, q2⟩ := p4 b hb;refine ⟨q1, ?_⟩;rcases q2 with q2 | ⟨n, q2⟩
  ·exact q2
  ·exact absurd q2 (hdc b n)
 have him : ImOB g3 w' := by
  refine ⟨fun b o u hI => ?_, fun b p hO => ?_, hr0.sat.ob.2⟩
  ·obtain ⟨q1, q2⟩ := hr0.sat.im b o u hI;exact ⟨hgr.cell q1, by rw [hO3 b (zbm q1)]; exact q2⟩
  ·rcases Nat.lt_or_ge b w.heap.size with hb | hb
   ·exact Nat.lt_of_lt_of_le hb hgr.size
   ·simp only [g3, Nat.not_lt.2 hb, if_false] at hO;cases hO' : O' b with
    | none => simp [hO'] at hO
    | some q => exact hs.ob.1 b q hO'
 refine hK _ w' g3 ⟨Im.le_refl _, fun n hn => ?_, hO3, hgr⟩ ?_ him (fun k' B hB => ?_)
 ·have : n ≠ k := fun e => hn (by simp [e])
  simp [g3, this]
 ·refine .tup _ _ (by simpa using hl) (fun j c u hc hu' => ?_)
  match j with
  | 0 =>
   simp at hc hu'; subst hc; subst hu';rcases p1.2 with ⟨e, _⟩ | ⟨b, cap, cur, e, _⟩ <;>
   ·have e : ρ' q = _ := e;rw [hvk] at e;rw [e];exact .own k _ _ _ (by simp [g3, e])
  | j + 1 =>
   have hc1 : fl[j]? = some c := by simpa using hc
   exact (hvv (j + 1) c u (by simpa using hc1) hu').flat (zax hff hc1)
 ·injection hB with hB; injection hB with e3 e4; subst e3; subst e4;have hk3 : g3.ρ k = v0 := by simp [g3]
  refine ⟨xs', by rw [hk3, ← hvk]; exact p1, p2, fun j x q c u hx hc hu => (p3 j x q c u hx hc hu).flat (zax (hfl x) hc), fun b hb => ?_⟩;rw [hk3, ← hvk] at hb;obtain ⟨q1, q2⟩ := hnew b hb;refine ⟨by simp [g3, Nat.not_lt.2 q2, q1], .inl (Nat.le_trans hr0.ext.size q2)⟩
end
end Go.Rse
namespace Go.Rse
open Go Go.Proofs
section
attribute [local irreducible] Pur yr yw Ex X Fn Imp LeV LeB FnO It yx FnW FnOW
theorem zpI {s : Sgm} {A : List Int} (h : (chF s A).isSome = true) : chF s A = some ((chF s A).getD 0) := by
 cases hc : chF s A with
 | none => rw [hc] at h; cases h
 | some c => rfl
attribute [local irreducible] stK okJ alK alQ segV segE unT muF muI chF wnL cuE cuV cuO mdJ
set_option maxHeartbeats 2000000 in
theorem zep (m : Mn) (k : Int) (l : List Ite) (h0 : -9223372036854775808 <= k) (h1 : k <= 9223372036854775807) (hl : l.length <= 1000000) : Fn Tryz.prog 133 [mnA m, iv k, itsA l] (.tup [yf (cuV m k l), iv (cuE m k l)]) := by
 have hbl := zcy m k l;refine Fn.go Tryz.func133 Tryz.ntmps133 (fun g w d => ?_);refine gq ?_;refine yb (zbg m k l h0 h1 hl) ?_;refine gd ?_ ?_<;>intro hc1
 ·have hZ1 := zxx hc1;obtain ⟨hE, hV⟩ := hZ1;apply yg;refine zh ?_;refine X.ret ?_;refine RetQ.imp (ye (ts := [(6, yf []), (7, iv (segE m k l))]) (hs := [])) ?_;refine yi ?_ ?_;all_goals (first | (rw [hE]; done) | (rw [hV]; done) | exact congrArg (fun z => yf z) hV | exact congrArg (fun z => AV.int .i64 z) hE.symm | (with_reducible rfl))
 have h00 : segE m k l = 0 := by omega
 have hz0 : [] = muF m k l 0 := zx7.symm;apply yp;apply yg;refine yu ?_;iterate 2 apply yl
 refine X.imp (yL intE 3 1 10 5 rfl rfl) ?_;refine gq ?_
 refine yS (ι := Nat) (fun (n : Nat) => [(1, iv k), (2, itsA l), (3, .ptr 3 0 0 0), (10, .own 5), (27, smsA (segV m k l)), (28, iv (segV m k l).length), (29, iv (n : Int))]) (fun (n : Nat) => [(3, .box (mnE m) 32), (5, .row intE (muF m k l n) 3 1)]) (fun (n : Nat) => n <= (segV m k l).length /\ muI m k l n = true) (fun (n : Nat) => (segV m k l).length - n) 0 (fun n hk => ?_) (hJ := by
  exact ⟨by omega, zt9⟩) (h0 := by
  exact yd)
 obtain ⟨hk1, hk2⟩ := hk;refine gd ?_ ?_<;>intro hc2
 ·obtain ⟨s, hs⟩ : ∃ s, (segV m k l)[n]? = some s := ⟨_, lgg (by omega)⟩;have hs2 : (segV m k l)[(n : Int).toNat]? = some s := by simpa using hs
  have hsN := ziZ m k l s (List.mem_of_getElem? hs);have hLn := ziS hk2;have hAl := zpf (unT m k) k (segV m k l) l (muF m k l n) (muF m k l n).length;refine gq ?_;refine Ex.stepA (zpH (stF := ⟨[(34, mnA m), (35, iv k), (36, itsA l), (37, yf (muF m k l n))], []⟩) 38 ((Imp.freeze (k := 5) rfl).trans ye) (ze8 m k l (muF m k l n) h0 h1 (by omega) (by omega) (hE := h00) (hX := by simp; omega) (hok := zua hk2) (hN := ziZ m k l) (hMS := by omega))) rfl rfl ?_;refine gd ?_ ?_<;>intro hc3
  ·exact absurd rfl hc3
  apply yp;apply yl;refine X.imp (Imp.freeze (k := 38) rfl) ?_;refine gq ?_;refine yb (zhW s (akF m k l n) hsN (by unfold akF; omega)) ?_;refine gd ?_ ?_<;>intro hc4
  ·have hC : chF s (akF m k l n) = none := by first | exact hc4 | simpa using hc4
   have hZ2 := zxy h00 hk2 hs hC;obtain ⟨hE, hV⟩ := hZ2;apply yg;refine zm ?_;refine X.ret ?_;refine RetQ.imp (ye (ts := [(6, yf []), (7, iv 14)]) (hs := [])) ?_;refine yi ?_ ?_;all_goals (first | (rw [hE]; done) | (rw [hV]; done) | exact congrArg (fun z => yf z) hV | exact congrArg (fun z => AV.int .i64 z) hE.symm | (with_reducible rfl))
  have hC := zpI hc4;have hZ3 := zxw hk2 hs hC;obtain ⟨hI, hst⟩ := hZ3;refine gq ?_;refine yJ intE [_] ?_;refine gq ?_
  refine yz (n + 1) (hJ := by
   exact ⟨by omega, hI⟩) (hI := yd)
 ·have hn : n = (segV m k l).length := by omega
  have hZ4 := zr1 h00 hk2 hn;obtain ⟨hE, hV⟩ := hZ4;apply X.exit;apply yg;refine zh ?_;refine X.ret ?_;refine RetQ.imp (Imp.freeze (k := 5) rfl) ?_;refine yi ?_ ?_;all_goals (first | (rw [hE]; done) | (rw [hV]; done) | exact congrArg (fun z => yf z) hV | exact congrArg (fun z => AV.int .i64 z) hE.symm | (with_reducible rfl))
end
section
attribute [local irreducible] Pur yr yw Ex X Fn Imp LeV LeB FnO It yx FnW FnOW
attribute [local irreducible] cuV cuE apV apE leE leC leI lvN lvF ckM perfL ckIE ckIX
end
end Go.Rse
