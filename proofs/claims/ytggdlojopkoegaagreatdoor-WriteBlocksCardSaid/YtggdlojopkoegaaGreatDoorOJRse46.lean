/-
  Slices compared with nil.
-/
import Derived.Test.YtggdlojopkoegaaGreatDoorOJItem3
import Derived.Test.YtggdlojopkoegaaGreatDoorOJLvl12
set_option linter.unusedSimpArgs false
set_option linter.unusedVariables false
namespace Go.Rse
open Go Go.RowKit
def nlA {α : Type} (enc : α -> List AV) : Option (List α) -> AV
 | none => .nils
 | some l => .sl enc l
section
variable {P : Program} {C : Ctx} {st : St} {ty : TypeId} {Q : Exit -> St -> Prop}
theorem zhV {T E : TypeId} {w : World} (hu : P.underlying T = some (.slice E)) (A : Option Addr) (n c : Nat) : (Op.equal T (.slice A n c) (.slice none 0 0)).run P w = .ok A.isNone w := by
 unfold Op.equal;rw [show Op.maxDepth = 9999 + 1 from rfl];unfold Op.equalIn;cases A <;> simp [run_underlying hu]
theorem zmb {α : Type} {enc : α -> List AV} {o : Option (List α)} {I : Im} {ρ : Nat -> Value} {v : Value} (h : RV I ρ (nlA enc o) v) (hne : ∀ l, o = some l -> l ≠ []) : ∃ A n c, v = .slice A n c /\ A.isNone = !o.isSome := by
 cases o with
 | none => exact ⟨none, 0, 0, zb9 h, rfl⟩
 | some l =>
  obtain ⟨A, b, o, s, c, vs, e, hA, -⟩ := zbB h;exact ⟨A, _, c, e, by rw [hA (hne l rfl)]; rfl⟩
theorem zqf {α : Type} {enc : α -> List AV} {o : Option (List α)} {T E : TypeId} {x : Operand} {yt : TypeId} (hu : P.underlying T = some (.slice E)) (hx : ev st x = some (nlA enc o)) (hne : ∀ l, o = some l -> l ≠ []) : Pur P C (.binOp .neq T x (.const (.slice none 0 0)) yt) ty st (.bool o.isSome) := fun g a w dst pos af gd hr => by
 obtain ⟨A, n, c, e, h⟩ := zmb (yw hr hx) hne;have e0 : a.eval (.const (.slice none 0 0)) = .slice none 0 0 := rfl;refine ⟨.bool o.isSome, ?_, .bool _⟩;have hg : (eqGuard .neq T x (.const (.slice none 0 0)) (.slice A n c) (.slice none 0 0)).run P w = .ok () w := by unfold eqGuard; simp
 have h1 := zhV (P := P) (w := w) hu A n c;simp only [execOp, e, e0, Sem.run_bind, hg, Result.andThen_ok, binOp, h1, Sem.run_pure, h, Bool.not_not]
theorem zrR {α : Type} {enc : α -> List AV} {o : Option (List α)} {T E : TypeId} {x : Operand} {yt : TypeId} (hu : P.underlying T = some (.slice E)) (hx : ev st x = some (nlA enc o)) (hne : ∀ l, o = some l -> l ≠ []) : Pur P C (.binOp .eql T x (.const (.slice none 0 0)) yt) ty st (.bool (!o.isSome)) := fun g a w dst pos af gd hr => by
 obtain ⟨A, n, c, e, h⟩ := zmb (yw hr hx) hne;have e0 : a.eval (.const (.slice none 0 0)) = .slice none 0 0 := rfl;refine ⟨.bool (!o.isSome), ?_, .bool _⟩;have hg : (eqGuard .eql T x (.const (.slice none 0 0)) (.slice A n c) (.slice none 0 0)).run P w = .ok () w := by unfold eqGuard; simp
 have h1 := zhV (P := P) (w := w) hu A n c;simp only [execOp, e, e0, Sem.run_bind, hg, Result.andThen_ok, binOp, h1, Sem.run_pure, h]
theorem zqg {ops : Array Oper} {rest : List Oper} {d : Nat} {pos : String} {af : Array Edge} {α : Type} {enc : α -> List AV} {l : List α} {T E : TypeId} {x : Operand} {yt : TypeId} (h : ∀ b : Bool, (l ≠ [] -> b = false) -> Ex P C ops rest ⟨(d, .bool b) :: st.t, st.h⟩ Q)
 (hu : P.underlying T = some (.slice E)) (hx : ev st x = some (.sl enc l) := by exact rfl) (hd : dOk C.n (some d) = true := by exact rfl) :
 Ex P C ops ({ dst := some d, op := .binOp .eql T x (.const (.slice none 0 0)) yt, type := ty, pos := pos, after := af, guard := none } :: rest) st Q := fun g a w hr => by
 obtain ⟨A, b, o, s, c, vs, e, hA, -⟩ := zbB (yw hr hx);have e0 : a.eval (.const (.slice none 0 0)) = .slice none 0 0 := rfl;have hg : (eqGuard .eql T x (.const (.slice none 0 0)) (.slice A l.length c) (.slice none 0 0)).run P w = .ok () w := by unfold eqGuard; simp
 have h1 := zhV (P := P) (w := w) hu A l.length c;refine wpListIn_plain rfl fun K' hK => zH ?_
 simp only [wp1, execOp, e, e0, Sem.run_bind, hg, Result.andThen_ok, binOp, h1, Sem.run_pure, zbf];refine hK _ _ ?_;exact h A.isNone (fun hne => by rw [hA hne]; rfl) _ _ _ (hr.addSt (nb := none) (d := some d) (x := .bool A.isNone) (v := .bool A.isNone) (Add.refl _ g w) hd rfl (.bool _) hr.sat.im hr.sat.ob (fun _ _ h => by cases h))
end
end Go.Rse
namespace Go.Rse
open Go Go.Proofs
instance : ZcK Tryz.prog 373 [.nilf, .int .i64 0, .int .i64 0] := ⟨⟨_, ztc, rfl⟩⟩
attribute [local irreducible] Pur yz yA Ex X Fn Imp LeV LeB FnO It yE FnW FnOW
theorem zfS {L A : List Int} {j : Nat} {c : Int} (hj : L[j]? = some c) (hc : c ∈ A) (h : ∀ i : Nat, i < j -> ∀ d, L[i]? = some d -> d ∉ A) : L.find? (fun c => decide (c ∈ A)) = some c := by
 rw [List.find?_eq_some_iff_append];refine ⟨by simpa using hc, L.take j, L.drop (j + 1), ?_, fun a ha => ?_⟩
 ·have hl := (List.getElem?_eq_some_iff.1 hj);rw [← hl.2, List.getElem_cons_drop, List.take_append_drop]
 ·obtain ⟨i, hi, e⟩ := List.getElem_of_mem ha;rw [List.length_take] at hi;have := h i (by omega) a (by rw [← e, List.getElem_take, lgg]);simpa using this
theorem zec {L A : List Int} (h : ∀ i : Nat, i < L.length -> ∀ d, L[i]? = some d -> d ∉ A) : L.find? (fun c => decide (c ∈ A)) = none := by
 rw [List.find?_eq_none];intro c hc;obtain ⟨i, hi, e⟩ := List.getElem_of_mem hc;have := h i hi c (by rw [← e, lgg]);simpa using this
theorem zed {L A : List Int} {j : Nat} {c : Int} (hj : L[j]? = some c) (hc : c ∉ A) (h : ∀ i : Nat, i < j -> ∀ d, L[i]? = some d -> d ∉ A) : ∀ i : Nat, i < j + 1 -> ∀ d, L[i]? = some d -> d ∉ A := by
 intro i hi d hd;by_cases e : i = j
 ·subst e; rw [hj] at hd; injection hd with hd; subst hd; exact hc
 ·exact h i (by omega) d hd
theorem zmc (p : Int -> Bool) (a : Int) : [a, a].find? p = [a].find? p := by
 simp only [List.find?]; cases p a <;> rfl
theorem za3 (s : Sgm) (n : Int) (hN : 0 <= s.Count.N) : Fn Tryz.prog 366 [smA s, .ept (fun _ : Unit => [iv n]) () 0] (.bool (decide (s.Count.N % 3 = n))) := by
 refine Fn.go Tryz.func366 Tryz.ntmps366 (fun g w d => ?_);apply yb;refine yD ?_;refine ya ?_;apply yj;iterate 6 refine ya ?_
 refine ye ?_;refine X.ret ?_;refine yh ?_;all_goals (first | rfl | (simp_all; done))
theorem zbr (n : Int) : Fn Tryz.prog 365 [iv n] (.fn 366 [.ept (fun _ : Unit => [iv n]) () 0]) := by
 refine Fn.go Tryz.func365 Tryz.ntmps365 (fun g w d => ?_);apply yb;refine zdb ?_;refine ya ?_;apply yj;refine yg ?_;refine X.ret ?_;refine RetQ.imp (zk (k := 1) rfl rfl) ?_;refine yh ?_;all_goals (first | rfl | (simp_all; done))
theorem zfT (s : Sgm) : Fn Tryz.prog 367 [smA s] (.bool s.Free) := by
 refine Fn.go Tryz.func367 Tryz.ntmps367 (fun g w d => ?_);apply yb;refine yD ?_;refine ya ?_;apply yj;refine yo ?_;refine X.ret ?_;refine yh ?_;all_goals (first | rfl | (simp_all; done))
theorem zfU (s : Sgm) : Fn Tryz.prog 368 [smA s] (.bool (decide (s.Count.N = 2))) := by
 refine Fn.go Tryz.func368 Tryz.ntmps368 (fun g w d => ?_);apply yb;refine yD ?_;refine ya ?_;apply yj;refine zw ?_;refine X.ret ?_;refine yh ?_;all_goals (first | rfl | (simp_all; done))
theorem zhW  : Fn Tryz.prog 341 [] (.agg [.fn 367 [], iv 1, iv 0, .fn 366 [.ept (fun _ : Unit => [iv 0]) () 0], iv 0, iv 0, .fn 366 [.ept (fun _ : Unit => [iv 1]) () 0], iv 1, iv 2, .fn 368 [], iv 4, iv 3, .fn 366 [.ept (fun _ : Unit => [iv 2]) () 0], iv 3, iv 4]) := by
 refine Fn.go Tryz.func341 Tryz.ntmps341 (fun g w d => ?_);apply yb;refine yC ?_;apply yj;refine ya ?_;apply yj;iterate 2 refine ya ?_
 refine ym (zbr 0) ?_;iterate 2 refine ya ?_
 refine ym (zbr 1) ?_;iterate 3 refine ya ?_
 refine ym (zbr 2) ?_;iterate 2 refine ya ?_
 refine Ex.mo ?_;apply Ex.nil;refine X.ret ?_;refine RetQ.ret (.one (.cellA rfl rfl rfl rfl zpw (LeV.eq ?_)));all_goals (first | rfl | (simp_all; done))
attribute [local irreducible] chF wnL
set_option maxHeartbeats 2000000 in
theorem zgR (s : Sgm) (A : List Int) (hN : 0 <= s.Count.N) (hA : A.length <= 1000000) : Fn Tryz.prog 311 [smA s, yl A] (.tup [iv ((chF s A).getD 0), .bool (chF s A).isSome]) := by
 refine Fn.go Tryz.func311 Tryz.ntmps311 (fun g w d => ?_);apply yb;refine yD ?_;refine yg ?_;apply yd;apply yb;refine ym zhW ?_;refine ye ?_;apply X.block
 refine zj (ι := Nat) (fun (n : Nat) => [(1, yl A), (2, .ptr 2 0 0 0), (4, iv 0), (5, .bool false), (10, .agg [.fn 367 [], iv 1, iv 0, .fn 366 [.ept (fun _ : Unit => [iv 0]) () 0], iv 0, iv 0, .fn 366 [.ept (fun _ : Unit => [iv 1]) () 0], iv 1, iv 2, .fn 368 [], iv 4, iv 3, .fn 366 [.ept (fun _ : Unit => [iv 2]) () 0], iv 3, iv 4]), (11, iv (n : Int))]) (fun (n : Nat) => [(2, .box (smE s) 326)]) (fun (n : Nat) => n <= 5 /\ (1 <= n -> ¬ s.Free = true) /\ (2 <= n -> ¬ s.Count.N % 3 = 0) /\ (3 <= n -> ¬ s.Count.N % 3 = 1) /\ (4 <= n -> ¬ s.Count.N = 2) /\ (5 <= n -> ¬ s.Count.N % 3 = 2)) (fun (n : Nat) => 5 - n) 0 (fun n hk => ?_) (hJ := by
  exact ⟨by omega, by omega, by omega, by omega, by omega, by omega⟩)
 obtain ⟨hk1, hk2, hk3, hk4, hk5, hk6⟩ := hk;apply yb;refine ye ?_;apply yd;refine yk rfl ?_ ?_<;>intro hc1
 ·apply yf;apply yd;apply X.block;apply yd;obtain hn | hn | hn | hn | hn : n = 0 \/ n = 1 \/ n = 2 \/ n = 3 \/ n = 4 := by omega
  ·have hpt : (([.fn 367 [], iv 1, iv 0, .fn 366 [.ept (fun _ : Unit => [iv 0]) () 0], iv 0, iv 0, .fn 366 [.ept (fun _ : Unit => [iv 1]) () 0], iv 1, iv 2, .fn 368 [], iv 4, iv 3, .fn 366 [.ept (fun _ : Unit => [iv 2]) () 0], iv 3, iv 4] : List AV).drop (((n : Nat) : Int).toNat * 3)).take 3 = [.fn 367 [], iv 1, iv 0] := by rw [hn]; rfl
   apply yc;refine ya (hs := by exact zx ArK.h TyK.h rfl rfl (by omega) (by omega) hpt) ?_;refine yC ?_;refine Ex.mo ?_;apply Ex.nil;apply yd;apply yb;(iterate 3 refine ya ?_);refine ym (zfT s) ?_;refine ye ?_;refine yk rfl ?_ ?_<;>intro hc2
   ·have hx0 : ¬ s.Free = true := by first | exact hc2 | (rw [hc2]; decide) | (simp at hc2; simp [hc2]; done) | omega
    apply X.exit;apply yc;refine yg ?_
    refine yL (n + 1) (hJ := by
     refine ⟨by omega, ?_, ?_, ?_, ?_, ?_⟩ <;> intro h6 <;> first | assumption | (exact absurd h6 (by omega)) | (exact hk2 (by omega)) | (exact hk3 (by omega)) | (exact hk4 (by omega)) | (exact hk5 (by omega)) | (exact hk6 (by omega)))
   have hy : s.Free = true := by first | exact hc2 | (simp at hc2; exact hc2) | omega
   have hW : (wnL s).find? (fun c => decide (c ∈ A)) = [(1 : Int), 0].find? (fun c => decide (c ∈ A)) := by
    have h0 := hk2;rw [show wnL s = [1, 0] by unfold wnL; simp_all]
   apply yf;apply yd;apply yb;(iterate 4 refine ya ?_);refine yQ intE [_, _] ?_;refine yg ?_;apply X.block
   refine zj (ι := Nat) (fun (j : Nat) => [(1, yl A), (2, .ptr 2 0 0 0), (4, iv 0), (5, .bool false), (10, .agg [.fn 367 [], iv 1, iv 0, .fn 366 [.ept (fun _ : Unit => [iv 0]) () 0], iv 0, iv 0, .fn 366 [.ept (fun _ : Unit => [iv 1]) () 0], iv 1, iv 2, .fn 368 [], iv 4, iv 3, .fn 366 [.ept (fun _ : Unit => [iv 2]) () 0], iv 3, iv 4]), (11, iv (n : Int)), (23, .own 23), (24, iv 2), (25, iv (j : Int))]) (fun (j : Nat) => [(2, .box (smE s) 326), (23, .row intE [1, 0] 3 1)]) (fun (j : Nat) => j <= 2 /\ ∀ i : Nat, i < j -> ∀ d, ([1, 0] : List Int)[i]? = some d -> d ∉ A) (fun (j : Nat) => 2 - j) 0 (fun j hk => ?_) (hJ := by
    exact ⟨by omega, fun i hi => absurd hi (by omega)⟩)
   obtain ⟨hj1, hj2⟩ := hk;apply yb;refine ye ?_;apply yd;refine yk rfl ?_ ?_<;>intro hc3
   ·obtain ⟨x, hx⟩ : ∃ x, ([1, 0] : List Int)[j]? = some x := ⟨_, lgg (by simp; omega)⟩;have hx2 : ([1, 0] : List Int)[(j : Int).toNat]? = some x := by simpa using hx
    apply yf;apply yd;apply X.block;apply yb;(iterate 3 refine ya ?_);apply yj;(iterate 2 refine ya ?_);refine ym (yJ A x (by omega)) ?_;apply Ex.nil;refine yk rfl ?_ ?_<;>intro hc4
    ·have hE : chF s A = some x := by unfold chF; rw [hW]; exact zfS hx (by simpa using hc4) hj2
     apply yb;refine yo ?_;refine X.ret ?_;refine yy ?_ ?_;all_goals (rw [hE]; rfl)
    apply yf;apply yc;refine yg ?_
    refine yL (j + 1) (hJ := by
     exact ⟨by omega, zed hx (by simpa using hc4) hj2⟩)
   ·have hj3 : j = 2 := by omega
    subst hj3;have hE : chF s A = none := by unfold chF; rw [hW]; exact zec hj2
    apply X.exit;apply yb;refine yg ?_;refine X.ret ?_;refine yy ?_ ?_;all_goals (rw [hE]; rfl)
  ·have hpt : (([.fn 367 [], iv 1, iv 0, .fn 366 [.ept (fun _ : Unit => [iv 0]) () 0], iv 0, iv 0, .fn 366 [.ept (fun _ : Unit => [iv 1]) () 0], iv 1, iv 2, .fn 368 [], iv 4, iv 3, .fn 366 [.ept (fun _ : Unit => [iv 2]) () 0], iv 3, iv 4] : List AV).drop (((n : Nat) : Int).toNat * 3)).take 3 = [.fn 366 [.ept (fun _ : Unit => [iv 0]) () 0], iv 0, iv 0] := by rw [hn]; rfl
   apply yc;refine ya (hs := by exact zx ArK.h TyK.h rfl rfl (by omega) (by omega) hpt) ?_;refine yC ?_;refine Ex.mo ?_;apply Ex.nil;apply yd;apply yb;(iterate 3 refine ya ?_);refine ym (za3 s 0 hN) ?_;refine ye ?_;refine yk rfl ?_ ?_<;>intro hc5
   ·have hx1 : ¬ s.Count.N % 3 = 0 := by first | exact hc5 | (rw [hc5]; decide) | (simp at hc5; simp [hc5]; done) | omega
    apply X.exit;apply yc;refine yg ?_
    refine yL (n + 1) (hJ := by
     refine ⟨by omega, ?_, ?_, ?_, ?_, ?_⟩ <;> intro h6 <;> first | assumption | (exact absurd h6 (by omega)) | (exact hk2 (by omega)) | (exact hk3 (by omega)) | (exact hk4 (by omega)) | (exact hk5 (by omega)) | (exact hk6 (by omega)))
   have hy : s.Count.N % 3 = 0 := by first | exact hc5 | (simp at hc5; exact hc5) | omega
   have hW : (wnL s).find? (fun c => decide (c ∈ A)) = [(0 : Int), 0].find? (fun c => decide (c ∈ A)) := by
    have h0 := hk2;rw [zmc, show wnL s = [0] by unfold wnL; simp_all]
   apply yf;apply yd;apply yb;(iterate 4 refine ya ?_);refine yQ intE [_, _] ?_;refine yg ?_;apply X.block
   refine zj (ι := Nat) (fun (j : Nat) => [(1, yl A), (2, .ptr 2 0 0 0), (4, iv 0), (5, .bool false), (10, .agg [.fn 367 [], iv 1, iv 0, .fn 366 [.ept (fun _ : Unit => [iv 0]) () 0], iv 0, iv 0, .fn 366 [.ept (fun _ : Unit => [iv 1]) () 0], iv 1, iv 2, .fn 368 [], iv 4, iv 3, .fn 366 [.ept (fun _ : Unit => [iv 2]) () 0], iv 3, iv 4]), (11, iv (n : Int)), (23, .own 23), (24, iv 2), (25, iv (j : Int))]) (fun (j : Nat) => [(2, .box (smE s) 326), (23, .row intE [0, 0] 3 1)]) (fun (j : Nat) => j <= 2 /\ ∀ i : Nat, i < j -> ∀ d, ([0, 0] : List Int)[i]? = some d -> d ∉ A) (fun (j : Nat) => 2 - j) 0 (fun j hk => ?_) (hJ := by
    exact ⟨by omega, fun i hi => absurd hi (by omega)⟩)
   obtain ⟨hj1, hj2⟩ := hk;apply yb;refine ye ?_;apply yd;refine yk rfl ?_ ?_<;>intro hc6
   ·obtain ⟨x, hx⟩ : ∃ x, ([0, 0] : List Int)[j]? = some x := ⟨_, lgg (by simp; omega)⟩;have hx2 : ([0, 0] : List Int)[(j : Int).toNat]? = some x := by simpa using hx
    apply yf;apply yd;apply X.block;apply yb;(iterate 3 refine ya ?_);apply yj;(iterate 2 refine ya ?_);refine ym (yJ A x (by omega)) ?_;apply Ex.nil;refine yk rfl ?_ ?_<;>intro hc7
    ·have hE : chF s A = some x := by unfold chF; rw [hW]; exact zfS hx (by simpa using hc7) hj2
     apply yb;refine yo ?_;refine X.ret ?_;refine yy ?_ ?_;all_goals (rw [hE]; rfl)
    apply yf;apply yc;refine yg ?_
    refine yL (j + 1) (hJ := by
     exact ⟨by omega, zed hx (by simpa using hc7) hj2⟩)
   ·have hj3 : j = 2 := by omega
    subst hj3;have hE : chF s A = none := by unfold chF; rw [hW]; exact zec hj2
    apply X.exit;apply yb;refine yg ?_;refine X.ret ?_;refine yy ?_ ?_;all_goals (rw [hE]; rfl)
  ·have hpt : (([.fn 367 [], iv 1, iv 0, .fn 366 [.ept (fun _ : Unit => [iv 0]) () 0], iv 0, iv 0, .fn 366 [.ept (fun _ : Unit => [iv 1]) () 0], iv 1, iv 2, .fn 368 [], iv 4, iv 3, .fn 366 [.ept (fun _ : Unit => [iv 2]) () 0], iv 3, iv 4] : List AV).drop (((n : Nat) : Int).toNat * 3)).take 3 = [.fn 366 [.ept (fun _ : Unit => [iv 1]) () 0], iv 1, iv 2] := by rw [hn]; rfl
   apply yc;refine ya (hs := by exact zx ArK.h TyK.h rfl rfl (by omega) (by omega) hpt) ?_;refine yC ?_;refine Ex.mo ?_;apply Ex.nil;apply yd;apply yb;(iterate 3 refine ya ?_);refine ym (za3 s 1 hN) ?_;refine ye ?_;refine yk rfl ?_ ?_<;>intro hc8
   ·have hx2 : ¬ s.Count.N % 3 = 1 := by first | exact hc8 | (rw [hc8]; decide) | (simp at hc8; simp [hc8]; done) | omega
    apply X.exit;apply yc;refine yg ?_
    refine yL (n + 1) (hJ := by
     refine ⟨by omega, ?_, ?_, ?_, ?_, ?_⟩ <;> intro h6 <;> first | assumption | (exact absurd h6 (by omega)) | (exact hk2 (by omega)) | (exact hk3 (by omega)) | (exact hk4 (by omega)) | (exact hk5 (by omega)) | (exact hk6 (by omega)))
   have hy : s.Count.N % 3 = 1 := by first | exact hc8 | (simp at hc8; exact hc8) | omega
   have hW : (wnL s).find? (fun c => decide (c ∈ A)) = [(1 : Int), 2].find? (fun c => decide (c ∈ A)) := by
    have h0 := hk2;rw [show wnL s = [1, 2] by unfold wnL; simp_all]
   apply yf;apply yd;apply yb;(iterate 4 refine ya ?_);refine yQ intE [_, _] ?_;refine yg ?_;apply X.block
   refine zj (ι := Nat) (fun (j : Nat) => [(1, yl A), (2, .ptr 2 0 0 0), (4, iv 0), (5, .bool false), (10, .agg [.fn 367 [], iv 1, iv 0, .fn 366 [.ept (fun _ : Unit => [iv 0]) () 0], iv 0, iv 0, .fn 366 [.ept (fun _ : Unit => [iv 1]) () 0], iv 1, iv 2, .fn 368 [], iv 4, iv 3, .fn 366 [.ept (fun _ : Unit => [iv 2]) () 0], iv 3, iv 4]), (11, iv (n : Int)), (23, .own 23), (24, iv 2), (25, iv (j : Int))]) (fun (j : Nat) => [(2, .box (smE s) 326), (23, .row intE [1, 2] 3 1)]) (fun (j : Nat) => j <= 2 /\ ∀ i : Nat, i < j -> ∀ d, ([1, 2] : List Int)[i]? = some d -> d ∉ A) (fun (j : Nat) => 2 - j) 0 (fun j hk => ?_) (hJ := by
    exact ⟨by omega, fun i hi => absurd hi (by omega)⟩)
   obtain ⟨hj1, hj2⟩ := hk;apply yb;refine ye ?_;apply yd;refine yk rfl ?_ ?_<;>intro hc9
   ·obtain ⟨x, hx⟩ : ∃ x, ([1, 2] : List Int)[j]? = some x := ⟨_, lgg (by simp; omega)⟩;have hx2 : ([1, 2] : List Int)[(j : Int).toNat]? = some x := by simpa using hx
    apply yf;apply yd;apply X.block;apply yb;(iterate 3 refine ya ?_);apply yj;(iterate 2 refine ya ?_);refine ym (yJ A x (by omega)) ?_;apply Ex.nil;refine yk rfl ?_ ?_<;>intro hc10
    ·have hE : chF s A = some x := by unfold chF; rw [hW]; exact zfS hx (by simpa using hc10) hj2
     apply yb;refine yo ?_;refine X.ret ?_;refine yy ?_ ?_;all_goals (rw [hE]; rfl)
    apply yf;apply yc;refine yg ?_
    refine yL (j + 1) (hJ := by
     exact ⟨by omega, zed hx (by simpa using hc10) hj2⟩)
   ·have hj3 : j = 2 := by omega
    subst hj3;have hE : chF s A = none := by unfold chF; rw [hW]; exact zec hj2
    apply X.exit;apply yb;refine yg ?_;refine X.ret ?_;refine yy ?_ ?_;all_goals (rw [hE]; rfl)
  ·have hpt : (([.fn 367 [], iv 1, iv 0, .fn 366 [.ept (fun _ : Unit => [iv 0]) () 0], iv 0, iv 0, .fn 366 [.ept (fun _ : Unit => [iv 1]) () 0], iv 1, iv 2, .fn 368 [], iv 4, iv 3, .fn 366 [.ept (fun _ : Unit => [iv 2]) () 0], iv 3, iv 4] : List AV).drop (((n : Nat) : Int).toNat * 3)).take 3 = [.fn 368 [], iv 4, iv 3] := by rw [hn]; rfl
   apply yc;refine ya (hs := by exact zx ArK.h TyK.h rfl rfl (by omega) (by omega) hpt) ?_;refine yC ?_;refine Ex.mo ?_;apply Ex.nil;apply yd;apply yb;(iterate 3 refine ya ?_);refine ym (zfU s) ?_;refine ye ?_;refine yk rfl ?_ ?_<;>intro hc11
   ·have hx3 : ¬ s.Count.N = 2 := by first | exact hc11 | (rw [hc11]; decide) | (simp at hc11; simp [hc11]; done) | omega
    apply X.exit;apply yc;refine yg ?_
    refine yL (n + 1) (hJ := by
     refine ⟨by omega, ?_, ?_, ?_, ?_, ?_⟩ <;> intro h6 <;> first | assumption | (exact absurd h6 (by omega)) | (exact hk2 (by omega)) | (exact hk3 (by omega)) | (exact hk4 (by omega)) | (exact hk5 (by omega)) | (exact hk6 (by omega)))
   have hy : s.Count.N = 2 := by first | exact hc11 | (simp at hc11; exact hc11) | omega
   have hW : (wnL s).find? (fun c => decide (c ∈ A)) = [(4 : Int), 3].find? (fun c => decide (c ∈ A)) := by
    have h0 := hk2;rw [show wnL s = [4, 3] by unfold wnL; simp_all]
   apply yf;apply yd;apply yb;(iterate 4 refine ya ?_);refine yQ intE [_, _] ?_;refine yg ?_;apply X.block
   refine zj (ι := Nat) (fun (j : Nat) => [(1, yl A), (2, .ptr 2 0 0 0), (4, iv 0), (5, .bool false), (10, .agg [.fn 367 [], iv 1, iv 0, .fn 366 [.ept (fun _ : Unit => [iv 0]) () 0], iv 0, iv 0, .fn 366 [.ept (fun _ : Unit => [iv 1]) () 0], iv 1, iv 2, .fn 368 [], iv 4, iv 3, .fn 366 [.ept (fun _ : Unit => [iv 2]) () 0], iv 3, iv 4]), (11, iv (n : Int)), (23, .own 23), (24, iv 2), (25, iv (j : Int))]) (fun (j : Nat) => [(2, .box (smE s) 326), (23, .row intE [4, 3] 3 1)]) (fun (j : Nat) => j <= 2 /\ ∀ i : Nat, i < j -> ∀ d, ([4, 3] : List Int)[i]? = some d -> d ∉ A) (fun (j : Nat) => 2 - j) 0 (fun j hk => ?_) (hJ := by
    exact ⟨by omega, fun i hi => absurd hi (by omega)⟩)
   obtain ⟨hj1, hj2⟩ := hk;apply yb;refine ye ?_;apply yd;refine yk rfl ?_ ?_<;>intro hc12
   ·obtain ⟨x, hx⟩ : ∃ x, ([4, 3] : List Int)[j]? = some x := ⟨_, lgg (by simp; omega)⟩;have hx2 : ([4, 3] : List Int)[(j : Int).toNat]? = some x := by simpa using hx
    apply yf;apply yd;apply X.block;apply yb;(iterate 3 refine ya ?_);apply yj;(iterate 2 refine ya ?_);refine ym (yJ A x (by omega)) ?_;apply Ex.nil;refine yk rfl ?_ ?_<;>intro hc13
    ·have hE : chF s A = some x := by unfold chF; rw [hW]; exact zfS hx (by simpa using hc13) hj2
     apply yb;refine yo ?_;refine X.ret ?_;refine yy ?_ ?_;all_goals (rw [hE]; rfl)
    apply yf;apply yc;refine yg ?_
    refine yL (j + 1) (hJ := by
     exact ⟨by omega, zed hx (by simpa using hc13) hj2⟩)
   ·have hj3 : j = 2 := by omega
    subst hj3;have hE : chF s A = none := by unfold chF; rw [hW]; exact zec hj2
    apply X.exit;apply yb;refine yg ?_;refine X.ret ?_;refine yy ?_ ?_;all_goals (rw [hE]; rfl)
  ·have hpt : (([.fn 367 [], iv 1, iv 0, .fn 366 [.ept (fun _ : Unit => [iv 0]) () 0], iv 0, iv 0, .fn 366 [.ept (fun _ : Unit => [iv 1]) () 0], iv 1, iv 2, .fn 368 [], iv 4, iv 3, .fn 366 [.ept (fun _ : Unit => [iv 2]) () 0], iv 3, iv 4] : List AV).drop (((n : Nat) : Int).toNat * 3)).take 3 = [.fn 366 [.ept (fun _ : Unit => [iv 2]) () 0], iv 3, iv 4] := by rw [hn]; rfl
   apply yc;refine ya (hs := by exact zx ArK.h TyK.h rfl rfl (by omega) (by omega) hpt) ?_;refine yC ?_;refine Ex.mo ?_;apply Ex.nil;apply yd;apply yb;(iterate 3 refine ya ?_);refine ym (za3 s 2 hN) ?_;refine ye ?_;refine yk rfl ?_ ?_<;>intro hc14
   ·have hx4 : ¬ s.Count.N % 3 = 2 := by first | exact hc14 | (rw [hc14]; decide) | (simp at hc14; simp [hc14]; done) | omega
    apply X.exit;apply yc;refine yg ?_
    refine yL (n + 1) (hJ := by
     refine ⟨by omega, ?_, ?_, ?_, ?_, ?_⟩ <;> intro h6 <;> first | assumption | (exact absurd h6 (by omega)) | (exact hk2 (by omega)) | (exact hk3 (by omega)) | (exact hk4 (by omega)) | (exact hk5 (by omega)) | (exact hk6 (by omega)))
   have hy : s.Count.N % 3 = 2 := by first | exact hc14 | (simp at hc14; exact hc14) | omega
   have hW : (wnL s).find? (fun c => decide (c ∈ A)) = [(3 : Int), 4].find? (fun c => decide (c ∈ A)) := by
    have h0 := hk2;rw [show wnL s = [3, 4] by unfold wnL; simp_all]
   apply yf;apply yd;apply yb;(iterate 4 refine ya ?_);refine yQ intE [_, _] ?_;refine yg ?_;apply X.block
   refine zj (ι := Nat) (fun (j : Nat) => [(1, yl A), (2, .ptr 2 0 0 0), (4, iv 0), (5, .bool false), (10, .agg [.fn 367 [], iv 1, iv 0, .fn 366 [.ept (fun _ : Unit => [iv 0]) () 0], iv 0, iv 0, .fn 366 [.ept (fun _ : Unit => [iv 1]) () 0], iv 1, iv 2, .fn 368 [], iv 4, iv 3, .fn 366 [.ept (fun _ : Unit => [iv 2]) () 0], iv 3, iv 4]), (11, iv (n : Int)), (23, .own 23), (24, iv 2), (25, iv (j : Int))]) (fun (j : Nat) => [(2, .box (smE s) 326), (23, .row intE [3, 4] 3 1)]) (fun (j : Nat) => j <= 2 /\ ∀ i : Nat, i < j -> ∀ d, ([3, 4] : List Int)[i]? = some d -> d ∉ A) (fun (j : Nat) => 2 - j) 0 (fun j hk => ?_) (hJ := by
    exact ⟨by omega, fun i hi => absurd hi (by omega)⟩)
   obtain ⟨hj1, hj2⟩ := hk;apply yb;refine ye ?_;apply yd;refine yk rfl ?_ ?_<;>intro hc15
   ·obtain ⟨x, hx⟩ : ∃ x, ([3, 4] : List Int)[j]? = some x := ⟨_, lgg (by simp; omega)⟩;have hx2 : ([3, 4] : List Int)[(j : Int).toNat]? = some x := by simpa using hx
    apply yf;apply yd;apply X.block;apply yb;(iterate 3 refine ya ?_);apply yj;(iterate 2 refine ya ?_);refine ym (yJ A x (by omega)) ?_;apply Ex.nil;refine yk rfl ?_ ?_<;>intro hc16
    ·have hE : chF s A = some x := by unfold chF; rw [hW]; exact zfS hx (by simpa using hc16) hj2
     apply yb;refine yo ?_;refine X.ret ?_;refine yy ?_ ?_;all_goals (rw [hE]; rfl)
    apply yf;apply yc;refine yg ?_
    refine yL (j + 1) (hJ := by
     exact ⟨by omega, zed hx (by simpa using hc16) hj2⟩)
   ·have hj3 : j = 2 := by omega
    subst hj3;have hE : chF s A = none := by unfold chF; rw [hW]; exact zec hj2
    apply X.exit;apply yb;refine yg ?_;refine X.ret ?_;refine yy ?_ ?_;all_goals (rw [hE]; rfl)
 ·exfalso; have a := hk3 (by omega); have b := hk4 (by omega); have c := hk6 (by omega); omega
end Go.Rse
namespace Go.Rse
open Go Go.Proofs
attribute [local irreducible] Pur yz yA Ex X Fn Imp LeV LeB FnO It yE FnW FnOW
attribute [local irreducible] stK okJ alK alQ chN chL segV segE unT
set_option maxHeartbeats 2000000 in
theorem zee (m : Mn) (k : Int) (l : List Ite) (M : List Int) (h0 : -9223372036854775808 <= k) (h1 : k <= 9223372036854775807) (hl : l.length <= 1000000) (hM : M.length <= 4000000) (hE : segE m k l = 0) (hX : (decide (((segV m k l).length : Int) <= (M.length : Int))) = false) (hok : okJ (unT m k) k (segV m k l) l M M.length = true) (hN : ∀ s ∈ segV m k l, 0 <= s.Count.N) (hMS : M.length <= (segV m k l).length) : FnO Tryz.prog 310 [mnA m, iv k, itsA l, yl M] [] [] (.tup [.own 42, iv 0]) [(42, .row intE (alK (unT m k) k (segV m k l) l M M.length) 3 1)] := by
 have hbl := zb3 m k l;have hu := zkw (zj5 hE).1;have hSO := zhN hE;obtain ⟨s, hs⟩ : ∃ s, (segV m k l)[M.length]? = some s := ⟨_, lgg (by simp at hX; omega)⟩;have hs2 : (segV m k l)[(M.length : Int).toNat]? = some s := by simpa using hs
 have hso := hSO.all s (List.mem_of_getElem? hs);have hsb := zhO hso.b (zdn (unT m k) (segV m k l) l M M.length);have hsN := hN s (List.mem_of_getElem? hs);have hsl := zdn (unT m k) (segV m k l) l M M.length;have hae : alQ (unT m k) k (stK (unT m k) (segV m k l) l M M.length).1 (stK (unT m k) (segV m k l) l M M.length).2 s = alK (unT m k) k (segV m k l) l M M.length := by unfold alK; rw [show (segV m k l).getD M.length default = s by rw [List.getD_eq_getElem?_getD, hs]; rfl]
 refine FnO.introX (ts := [(0, mnA m), (1, iv k), (2, itsA l), (3, yl M)]) (rv := [.tmp 8, .tmp 9]) (n := 43) (cs := []) (by kernel_rfl) Tryz.func310 rfl Tryz.ntmps310 rfl rfl (by simp) rfl rfl rfl rfl (fun g w d vs => ?_);apply yb;refine yD ?_;iterate 2 refine ya ?_
 apply yj;iterate 3 refine ya ?_
 refine zaJ [(36, 2000000), (30, 2000001), (34, 2000002)] (zaq m k l h0 h1 hl hE) ?_;iterate 6 refine ya ?_
 refine ye ?_;apply yd;apply yb;refine yg ?_;refine yk rfl ?_ ?_<;>intro hc1
 ·exact absurd rfl hc1
 apply yf;iterate 2 apply yd
 have hg5 : ((decide (((segV m k l).length : Int) <= (M.length : Int))) == false) = true := by rw [hX]; rfl
 ·apply yc;iterate 6 refine ya ?_
  iterate 3 refine zQ ?_
  refine yI rfl rfl hg5 ?_;refine zaJ [(2000000, 2000000), (2000001, 2000001), (2000002, 2000002)] (zaL (unT m k) k (segV m k l) l M hSO hN hMS hl (by omega) (by omega) (by omega) hok) ?_;refine zQ ?_;refine ye ?_;refine yk rfl ?_ ?_<;>intro hc2
  ·first | (exact absurd hc2.2 (by decide)) | (cases hc2; done) | (exact absurd hc2 (by simp [hX])) | (simp [hX] at hc2; done) | (rcases hc2 with h | h <;> first | (cases h; done) | (exact absurd h (by simpa using hX)) | (simp [hX] at h; done) | (exact absurd h (by decide)))
  apply yf;apply yb;iterate 6 refine ya ?_
  refine Ex.stepA (zfG (ι := Nat) (stF := fun b => ⟨[(36, .ept (fun _ : Unit => [.sl itE (stK (unT m k) (segV m k l) l M M.length).1, iv k, iv (unT m k).N, iv (unT m k).D, .val (.map (some b))]) () 0), (41, smA s)], []⟩) 42 (fun g a w hr => zmT (k := 2000002) rfl (fun b => (Imp.freeze (k := 2000001) rfl).trans ((zk (k := 2000000) rfl rfl).trans yn)) (fun _ => rfl) (fun _ => rfl) hr) (fun b => zat (stK (unT m k) (segV m k l) l M M.length).1 k (unT m k) b (stK (unT m k) (segV m k l) l M M.length).2 s hsb (by omega) (by omega) (by omega) hsN)) rfl rfl ?_;refine yg ?_;refine X.ret ?_;refine zeS (st' := ⟨[(8, .own 42), (9, iv 0)], [(1000001, .hold vs []), (42, .row intE (alK (unT m k) k (segV m k l) l M M.length) 3 1)]⟩) (by first | exact yn | exact yq) ?_;refine zhv.mk [(8, .own 42), (9, iv 0)] [] (.inr rfl) (.many (by decide) (.cons (.tmp rfl (LeV.eq ?_)) (.cons (.tmp rfl (LeV.eq ?_)) .nil)));all_goals (rfl)
end Go.Rse
