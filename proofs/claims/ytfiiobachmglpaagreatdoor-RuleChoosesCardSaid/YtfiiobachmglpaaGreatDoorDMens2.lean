/-
  The logic: parts Mens0, Mens1, Iter1, Iter2, Mens2.
-/
import Derived.Test.YtfiiobachmglpaaGreatDoorDTk
set_option linter.unusedSimpArgs false
set_option linter.unusedVariables false
namespace Go.Rse
open Go
def two3 (n : Int) : Prop := n = 2 \/ n = 3
instance (n : Int) : Decidable (two3 n) := inferInstanceAs (Decidable (_ \/ _))
def Mn.p (m : Mn) (v : Int) : Int := if v = 1 then m.Max else if v = 2 then m.Mod else if v = 3 then m.Tem else if v = 4 then m.Pro else 2
def Mn.Ok (m : Mn) : Prop := two3 m.Max /\ two3 m.Mod /\ two3 m.Tem /\ two3 m.Pro
instance (m : Mn) : Decidable m.Ok := inferInstanceAs (Decidable (_ /\ _ /\ _ /\ _))
def ckM (m : Mn) : Int := if m.Ok then 0 else 12
def ckMV (m : Mn) (v : Int) : Int := if m.Ok then (if 1 <= v /\ v <= 8 then 0 else 2) else 12
theorem zjP (m : Mn) (v : Int) (h1 : 1 <= v) (h2 : v <= 4) : (mnE m)[(v - 1).toNat]? = some (iv (m.p v)) := by
 have : v = 1 \/ v = 2 \/ v = 3 \/ v = 4 := by omega
 rcases this with rfl | rfl | rfl | rfl <;> rfl
theorem Mn.ok_iff (m : Mn) : m.Ok ↔ ∀ v : Int, 1 <= v -> v <= 4 -> two3 (m.p v) := by
 constructor
 ·rintro ⟨a, b, c, d⟩ v h1 h2
  have : v = 1 \/ v = 2 \/ v = 3 \/ v = 4 := by omega
  rcases this with rfl | rfl | rfl | rfl <;> assumption
 ·intro h
  exact ⟨h 1 (by omega) (by omega), h 2 (by omega) (by omega), h 3 (by omega) (by omega), h 4 (by omega) (by omega)⟩
end Go.Rse
namespace Go.Rse
open Go Go.Proofs
attribute [local irreducible] Pur StepA StepM Ex X Fn Imp LeV LeB
theorem zeh (m : Mn) : Fn Tryz.prog 156 [mnA m] (mnA m) := by
 refine Fn.go Tryz.func156 Tryz.ntmps156 (fun g w d => ?_)
 apply X.sr
 refine Ex.ba ?_
 refine Ex.al ?_
 apply Ex.ns
 iterate 9 refine Ex.pu ?_
 refine Ex.mo ?_
 apply Ex.nil
 refine X.ret ?_
 refine RetQ.ret (.one (.cellA rfl rfl rfl rfl ty209 (LeV.eq ?_)))
 all_goals (rfl)
theorem zgL (m : Mn) (v : Int) (h1 : 1 <= v) (h8 : v <= 8) : Fn Tryz.prog 171 [mnA m, iv v] (iv (m.p v)) := by
 refine Fn.go Tryz.func171 Tryz.ntmps171 (fun g w d => ?_)
 apply X.sr
 refine Ex.ba ?_
 refine Ex.pn ?_
 apply X.seq
 apply X.sr
 refine Ex.pu ?_
 refine Ex.pn ?_
 refine X.cd rfl ?_ ?_<;>intro hc1
 ·apply X.sr
  refine Ex.pn ?_
  refine X.ret ?_
  refine RetQ.r1 ?_
  all_goals (first | rfl | (congr 1; unfold Mn.p; rw [if_neg (by omega), if_neg (by omega), if_neg (by omega), if_neg (by omega)]))
 have hp := zjP m v h1 hc1
 apply X.skip
 apply X.sr
 refine Ex.pu ?_
 refine Ex.ca (zeh m) ?_
 iterate 2 refine Ex.pu ?_
 refine Ex.pur (zhd ar209 ty3 rfl rfl (by omega) (by omega) hp) rfl ?_
 refine Ex.pn ?_
 refine X.ret ?_
 refine RetQ.r1 ?_
 all_goals (first | rfl | (congr 1; unfold Mn.p; rw [if_neg (by omega), if_neg (by omega), if_neg (by omega), if_neg (by omega)]))
theorem zcH (m : Mn) : Fn Tryz.prog 88 [mnA m] (iv (ckM m)) := by
 refine Fn.go Tryz.func88 Tryz.ntmps88 (fun g w d => ?_)
 apply X.sr
 refine Ex.ba ?_
 refine Ex.pn ?_
 apply X.seq
 apply X.sr
 refine Ex.pu ?_
 refine Ex.ca (zeh m) ?_
 refine Ex.pn ?_
 apply X.block
 refine X.lp (ι := Nat) (fun (k : Nat) => [(6, mnA m), (7, iv k)]) (fun (k : Nat) => []) (fun (k : Nat) => k <= 4 /\ ∀ v : Int, 1 <= v -> v <= k -> two3 (m.p v)) (fun (k : Nat) => 4 - k) 0 (fun k hk => ?_) (hJ := by
  exact ⟨by omega, fun v h1 h2 => by omega⟩)
 obtain ⟨hk1, hk2⟩ := hk
 apply X.sr
 refine Ex.pn ?_
 apply X.seq
 refine X.cd rfl ?_ ?_<;>intro hc1
 ·have hp := zjP m ((k : Int) + 1) (by omega) (by omega)
  rw [show ((k : Int) + 1 - 1) = (k : Int) by omega] at hp
  apply X.skip
  apply X.seq
  apply X.block
  apply X.sr
  refine Ex.pur (zhd ar209 ty3 rfl rfl (by omega) (by omega) hp) rfl ?_
  refine Ex.pu ?_
  apply Ex.ns
  iterate 2 refine Ex.pu ?_
  refine ExF.at 2 ?_
  refine ExF.pu ?_
  iterate 2 refine ExF.gi ?_
  refine ExF.done ?_
  refine Ex.pn ?_
  refine X.cd rfl ?_ ?_<;>intro hc2
  ·apply X.sr
   refine Ex.pn ?_
   refine X.ret ?_
   refine RetQ.r1 ?_
   all_goals (congr 1; unfold ckM; rw [if_neg (fun h => by have := (m.ok_iff.1 h) (k + 1) (by omega) (by omega); unfold two3 at this; omega)])
  have hp2 : two3 (m.p ((k : Int) + 1)) := by unfold two3; omega
  apply X.skip
  apply X.region
  refine Ex.pu ?_
  refine Ex.pn ?_
  refine X.bk (k + 1) (hJ := by
   exact ⟨by omega, fun v h1 h2 => by
    by_cases e : v = k + 1
    ·rw [e]; exact hp2
    ·exact hk2 v h1 (by omega)⟩)
 ·apply X.exit
  apply X.sr
  refine Ex.pn ?_
  refine X.ret ?_
  refine RetQ.r1 ?_
  all_goals (congr 1; unfold ckM; rw [if_pos (m.ok_iff.2 fun v h1 h2 => hk2 v h1 (by omega))])
theorem zbS (m : Mn) (v : Int) : Fn Tryz.prog 97 [mnA m, iv v] (iv (ckMV m v)) := by
 refine Fn.go Tryz.func97 Tryz.ntmps97 (fun g w d => ?_)
 apply X.sr
 refine Ex.ba ?_
 refine Ex.pu ?_
 apply Ex.ns
 refine Ex.pu ?_
 refine Ex.ca (zcH m) ?_
 refine Ex.pn ?_
 apply X.seq
 apply X.sr
 iterate 2 refine Ex.pu ?_
 refine ExF.at 2 ?_
 refine ExF.pu ?_
 iterate 6 refine ExF.gi ?_
 refine ExF.done ?_
 refine Ex.pn ?_
 refine X.cd rfl ?_ ?_<;>intro hc1
 ·apply X.sr
  refine Ex.pn ?_
  refine X.ret ?_
  refine RetQ.r1 ?_
  all_goals (by_cases hm : m.Ok <;> simp_all [ckM, ckMV] <;> omega)
 apply X.skip
 apply X.sr
 refine Ex.pu ?_
 refine Ex.pn ?_
 refine X.ret ?_
 refine RetQ.r1 ?_
 all_goals (by_cases hm : m.Ok <;> simp_all [ckM, ckMV] <;> omega)
theorem zcI (m : Mn) (v : Int) : Fn Tryz.prog 151 [mnA m, iv v] (.tup [iv (if ckMV m v = 0 then m.p v else 0), iv (ckMV m v)]) := by
 refine Fn.go Tryz.func151 Tryz.ntmps151 (fun g w d => ?_)
 apply X.sr
 refine Ex.ba ?_
 refine Ex.pu ?_
 refine Ex.pn ?_
 apply X.seq
 apply X.sr
 iterate 2 refine Ex.pu ?_
 refine Ex.ca (zbS m v) ?_
 refine Ex.pu ?_
 apply Ex.ns
 refine Ex.pu ?_
 refine Ex.pn ?_
 refine X.cd rfl ?_ ?_<;>intro hc1
 ·apply X.sr
  iterate 2 refine Ex.pu ?_
  refine Ex.pn ?_
  refine X.ret ?_
  refine RetQ.r2 ?_ ?_
  all_goals (first | rfl | (simp_all; done))
 apply X.skip
 apply X.sr
 iterate 2 refine Ex.pu ?_
 refine Ex.ca (zgL m v (by unfold ckMV at hc1; split at hc1 <;> omega) (by unfold ckMV at hc1; split at hc1 <;> omega)) ?_
 refine Ex.pu ?_
 refine Ex.pn ?_
 refine X.ret ?_
 refine RetQ.r2 ?_ ?_
 all_goals (first | rfl | (simp_all; done))
end Go.Rse
namespace Go.Rse
open Go Go.Proofs
attribute [local irreducible] Pur StepA StepM Ex X Fn Imp LeV LeB FnO It YStep
def backI (l : List Int) : List (List AV) := (List.range l.length).map fun (j : Nat) => [iv ((l.length : Int) - 1 - (j : Int)), iv (l.getD (l.length - 1 - j) 0)]
theorem zgM {l : List Int} {k : Nat} (h : k < l.length) : (backI l)[k]? = some [iv ((l.length : Int) - 1 - k), iv (l.getD (l.length - 1 - k) 0)] := by
 simp [backI, h]
theorem zeZ {l : List Int} {j : Nat} {zs : List AV} (h : (backI l)[j]? = some zs) : j < l.length /\ zs = [iv ((l.length : Int) - 1 - j), iv (l.getD (l.length - 1 - j) 0)] := by
 have hlt : j < l.length := by have := (List.getElem?_eq_some_iff.1 h).1; simpa [backI] using this
 rw [zgM hlt] at h
 exact ⟨hlt, by simpa using h.symm⟩
theorem zjQ (l : List Int) : (backI l).length = l.length := by simp [backI]
theorem zbE (l : List Int) (hl : l.length <= 4000000000) : It Tryz.prog 227 [.ept (fun _ : Unit => [.sl intE l]) () 0] (backI l) := by
 refine It.intro (ts := fun lY => [(0, .yv lY), (1, .ept (fun _ : Unit => [.sl intE l]) () 0)]) (n := 19) (by kernel_rfl) Tryz.func227 rfl Tryz.ntmps227 rfl (fun _ => rfl) (by simp) (fun g w d ds Y lY hY => ?_)
 apply X.sr
 iterate 3 refine Ex.pu ?_
 refine Ex.pn ?_
 apply X.block
 refine X.lp (ι := Nat) (fun (k : Nat) => [(0, .yv lY), (1, .ept (fun _ : Unit => [.sl intE l]) () 0), (3, iv ((l.length : Int) - 1 - k))]) (fun (k : Nat) => [(1000000, .yld k true)]) (fun (k : Nat) => k <= l.length) (fun (k : Nat) => l.length - k) 0 (fun k hk => ?_)
 apply X.seq
 apply X.sr
 refine Ex.pu ?_
 refine Ex.pn ?_
 refine X.cd rfl ?_ ?_<;>intro hc1
 ·have hlt : k < l.length := by omega
  have hu : l[((l.length : Int) - 1 - k).toNat]? = some (l.getD (l.length - 1 - k) 0) := by
   rw [show ((l.length : Int) - 1 - k).toNat = l.length - 1 - k by omega, List.getD_eq_getElem?_getD, L.gg (by omega)]; rfl
  apply X.skip
  apply X.seq
  apply X.block
  apply X.sr
  iterate 6 refine Ex.pu ?_
  refine Ex.yield hY rfl rfl rfl (LeL.refl _) rfl rfl (zgM hlt) rfl (fun b => ?_)
  refine Ex.pn ?_
  refine X.cd rfl ?_ ?_<;>intro hc2
  ·refine X.ret ?_
   refine ⟨.inr rfl, _, b, rfl, fun hb => by simp_all⟩
  subst hc2
  apply X.skip
  apply X.region
  iterate 2 refine Ex.pu ?_
  refine Ex.pn ?_
  refine ⟨k + 1, Imp.au, ?_, ?_⟩
  ·omega
  ·omega
 ·apply X.exit
  refine ⟨.inl rfl, k, true, rfl, fun _ => by rw [zjQ]; omega⟩
end Go.Rse
namespace Go.Rse
open Go Go.Proofs
attribute [local irreducible] Pur StepA StepM Ex X Fn Imp LeV LeB FnO It YStep
theorem zbT (l : List Int) : Fn Tryz.prog 159 [intsA l] (.fn 227 [.ept (fun _ : Unit => [.sl intE l]) () 0]) := by
 refine Fn.go Tryz.func159 Tryz.ntmps159 (fun g w d => ?_)
 apply X.sr
 refine Ex.bx ?_
 refine Ex.pu ?_
 apply Ex.ns
 refine Ex.pu ?_
 refine Ex.pn ?_
 refine X.ret ?_
 refine RetQ.imp (Imp.freezeBox (k := 1) rfl rfl) ?_
 refine RetQ.r1 ?_
 all_goals (first | rfl | (simp_all; done))
theorem zbb (l : List Int) (hl : l.length <= 4000000000) : FnO Tryz.prog 160 [intsA l] [] [] (.own 5) [(5, .row intE l 3 1)] := by
 refine FnO.intro (ts := [(0, intsA l)]) (rv := [.tmp 2]) (n := 8) (cs := []) (by kernel_rfl) Tryz.func160 rfl Tryz.ntmps160 rfl rfl (by simp) rfl rfl rfl rfl (fun g w d vs => ?_)
 apply X.sr
 refine Ex.pn ?_
 apply X.seq
 apply X.sr
 refine Ex.pu ?_
 refine Ex.eqNil rfl sl27 rfl (fun b hb => ?_)
 apply Ex.nil
 refine X.cd rfl ?_ ?_<;>intro hc1
 ·have hl0 := hb hc1
  subst hl0
  subst hc1
  apply X.sr
  refine Ex.pn ?_
  refine X.ret ?_
  refine RetQO.imp (Imp.mkrow intE 3 1 2 5 rfl rfl) ?_
  refine RetQO.mk (ts := [(2, .own 5)]) (.inr rfl) (Imp.au) (.one (.tmp rfl (LeV.eq rfl)))
 apply X.skip
 apply X.sr
 refine Ex.bs intE [] ?_
 refine Ex.pu ?_
 refine Ex.mo ?_
 refine Ex.pn ?_
 refine X.ret ?_
 refine RetQO.mk (ts := [(2, .own 5)]) (.inr rfl) (Imp.au) (.one (.tmp rfl (LeV.eq rfl)))
def perfL (m : Mn) : List Int := ([4, 3, 2, 1] : List Int).filter fun v => decide (m.p v = 3)
def perfX (m : Mn) : List (List AV) := (perfL m).map fun v => [iv v]
def pcnt (m : Mn) (j : Nat) : Nat := ((([4, 3, 2, 1] : List Int).take j).filter fun v => decide (m.p v = 3)).length
def mnL (m : Mn) : List Int := [m.Max, m.Mod, m.Tem, m.Pro]
theorem zmi (m : Mn) (j : Nat) (h : j < 4) : (mnL m).getD (4 - 1 - j) 0 = m.p (4 - j) := by
 have : j = 0 \/ j = 1 \/ j = 2 \/ j = 3 := by omega
 rcases this with rfl | rfl | rfl | rfl <;> rfl
theorem zkJ (m : Mn) (j : Nat) (h : j < 4) (hp : m.p (4 - j) = 3) : (perfX m)[pcnt m j]? = some [iv (4 - j)] /\ pcnt m (j + 1) = pcnt m j + 1 := by
 have : j = 0 \/ j = 1 \/ j = 2 \/ j = 3 := by omega
 rcases this with rfl | rfl | rfl | rfl <;> simp at hp <;> simp [perfX, perfL, pcnt, List.filter_cons, hp]
 ·split <;> simp
 ·split <;> split <;> simp
 ·split <;> split <;> split <;> simp
theorem zmj (m : Mn) (j : Nat) (h : j < 4) (hp : ¬ m.p (4 - j) = 3) : pcnt m (j + 1) = pcnt m j := by
 have : j = 0 \/ j = 1 \/ j = 2 \/ j = 3 := by omega
 rcases this with rfl | rfl | rfl | rfl <;> simp at hp <;> simp [pcnt, List.filter_cons, hp]
theorem zkK (m : Mn) : pcnt m 4 = (perfX m).length := by simp [perfX, perfL, pcnt]
theorem zcg (m : Mn) : It Tryz.prog 158 [.ept (fun _ : Unit => mnE m) () 0] (perfX m) := by
 refine It.intro (ts := fun lY => [(0, .yv lY), (1, .ept (fun _ : Unit => mnE m) () 0)]) (n := 29) (by kernel_rfl) Tryz.func158 rfl Tryz.ntmps158 rfl (fun _ => rfl) (by simp) (fun g w d ds Y lY hY => ?_)
 apply X.sr
 refine Ex.bx ?_
 apply Ex.ns
 refine Ex.bs intE [] ?_
 iterate 8 refine Ex.pu ?_
 refine Ex.bs intE [_, _, _, _] ?_
 refine Ex.mo ?_
 refine Ex.imp (Imp.freeze (k := 5) rfl) ?_
 refine Ex.callO' [(5, 16)] (zbb (mnL m) (by simp [mnL])) rfl rfl rfl (LeL.refl _) rfl rfl trivial rfl rfl rfl rfl ?_
 refine Ex.imp (Imp.freeze (k := 16) rfl) ?_
 refine Ex.call rfl rfl rfl (zbT (mnL m)) rfl ?_
 apply Ex.nil
 apply X.block
 refine X.range (sl := [2]) (fun j => ([.ptr 2 0 0 0], [(2, .box [.yv lY] 192), (1000000, .yld (pcnt m j) true)])) (fun j => True) 900001 900002 rfl rfl (by decide) (fun j zs hj => by obtain ⟨_, rfl⟩ := zeZ hj; rfl) (zbE (mnL m) (by simp [mnL])) trivial rfl rfl (by decide) (Nat.le_refl _) (by simp) (fun j zs hj => by obtain ⟨_, rfl⟩ := zeZ hj; rfl) (fun _ => rfl) rfl rfl (fun l o us => Imp.au) (trivial) (fun j zs hj hJ l ready busy rb vs g w hb hyB => ?_) (fun hJ => ?_)
 ·obtain ⟨hj4, rfl⟩ := zeZ hj
  have hj4 : j < 4 := hj4
  have hv : (mnL m).getD ((mnL m).length - 1 - j) 0 = m.p (4 - j) := zmi m j hj4
  have hl4 : (mnL m).length = 4 := rfl
  apply X.sr
  refine Ex.pn ?_
  apply X.region
  refine Ex.pn ?_
  refine ⟨rfl, rfl, ?_⟩
  apply X.block
  apply X.sr
  iterate 3 refine Ex.pu ?_
  refine Ex.gcase (t := 22) true rfl (fun hg2 => ?_) (fun hg2 => ?_)
  ·refine Ex.gp ?_
   iterate 2 refine Ex.gp ?_
   have hp3 : m.p (4 - j) = 3 := by rw [← hv]; simpa using hg2
   obtain ⟨hq1, hq2⟩ := zkJ m j hj4 hp3
   refine Ex.yieldG hY rfl rfl rfl (fun _ => ⟨_, _, rfl, rfl, rfl, .cons (LeV.eq (by congr 1; omega)) .nil, rfl, rfl, hq1, fun b => ?_⟩) (fun h => absurd (h.symm.trans hg2) (by decide))
   refine Ex.gp ?_
   refine Ex.pn ?_
   refine X.cd rfl ?_ ?_<;>intro hc1
   ·subst hc1
    refine X.ret ?_
    refine ⟨[.ptr 2 0 0 0], [(2, .box [.yv lY] 192), (1000000, .yld (pcnt m j) false)], Imp.au, ?_⟩
    refine ⟨.inr rfl, _, false, rfl, fun hb => by simp at hb⟩
   subst hc1
   apply X.skip
   refine ⟨[.ptr 2 0 0 0], [(2, .box [.yv lY] 192), (1000000, .yld (pcnt m (j + 1)) true)], Imp.au, rfl, trivial⟩
  ·refine Ex.gf ?_
   iterate 4 refine Ex.gf ?_
   refine Ex.pn ?_
   refine X.cd rfl ?_ ?_<;>intro hc2
   ·exact absurd hc2 (by decide)
   have hp3 : ¬ m.p (4 - j) = 3 := by rw [← hv]; simpa using hg2
   have hq2 := zmj m j hj4 hp3
   apply X.skip
   refine ⟨[.ptr 2 0 0 0], [(2, .box [.yv lY] 192), (1000000, .yld (pcnt m (j + 1)) true)], Imp.au, rfl, trivial⟩
 refine ⟨.inl rfl, _, true, rfl, fun _ => zkK m⟩
theorem zdd (m : Mn) : Fn Tryz.prog 90 [mnA m] (.fn 158 [.ept (fun _ : Unit => mnE m) () 0]) := by
 refine Fn.go Tryz.func90 Tryz.ntmps90 (fun g w d => ?_)
 apply X.sr
 refine Ex.ba ?_
 refine Ex.pu ?_
 apply Ex.ns
 refine Ex.pu ?_
 refine Ex.pn ?_
 refine X.ret ?_
 refine RetQ.imp (Imp.freezeBox (k := 1) rfl rfl) ?_
 refine RetQ.r1 ?_
 all_goals (first | rfl | (simp_all; done))
end Go.Rse
namespace Go.Rse
open Go Go.Proofs
attribute [local irreducible] Pur StepA StepM Ex X Fn Imp LeV LeB FnO It YStep
def Mn.ab (m : Mn) (v : Int) : Int := ((perfL m).find? fun k => decide (k < v)).getD 0
theorem zbZ {m : Mn} {j : Nat} {zs : List AV} (h : (perfX m)[j]? = some zs) : ∃ k, (perfL m)[j]? = some k /\ zs = [iv k] := by
 rw [perfX, List.getElem?_map] at h
 cases hk : (perfL m)[j]? with
 | none => simp [hk] at h
 | some k => simp [hk] at h; exact ⟨k, rfl, h.symm⟩
theorem zn5 {m : Mn} {v : Int} {j : Nat} {k : Int} (h : (perfL m)[j]? = some k) (hJ : ∀ i, i < j -> ∀ k, (perfL m)[i]? = some k -> ¬ k < v) (hk : k < v) : m.ab v = k := by
 unfold Mn.ab
 generalize perfL m = l at h hJ
 induction l generalizing j with
 | nil => simp at h
 | cons x r ih =>
  cases j with
  | zero => simp at h; subst h; simp [hk]
  | succ j =>
   have hx := hJ 0 (by omega) x (by simp)
   simp only [List.find?_cons, decide_eq_true_eq, decide_eq_false hx]
   exact ih (by simpa using h) (fun i hi k hk => hJ (i + 1) (by omega) k (by simpa using hk))
theorem zmk {m : Mn} {v : Int} (hJ : ∀ i, i < (perfL m).length -> ∀ k, (perfL m)[i]? = some k -> ¬ k < v) : m.ab v = 0 := by
 unfold Mn.ab
 rw [List.find?_eq_none.2 (fun x hx => ?_)]
 ·rfl
 ·obtain ⟨i, hi⟩ := List.mem_iff_getElem?.1 hx
  have := hJ i (List.getElem?_eq_some_iff.1 hi).1 x hi
  simpa using this
theorem zei (m : Mn) (v : Int) : Fn Tryz.prog 152 [mnA m, iv v] (.tup [iv (if ckMV m v = 0 then m.ab v else 0), iv (ckMV m v)]) := by
 refine Fn.go Tryz.func152 Tryz.ntmps152 (fun g w d => ?_)
 apply X.sr
 refine Ex.ba ?_
 refine Ex.bx ?_
 iterate 2 refine Ex.al ?_
 apply Ex.nil
 apply X.seq
 apply X.sr
 iterate 2 refine Ex.pu ?_
 refine Ex.ca (zbS m v) ?_
 refine Ex.pu ?_
 apply Ex.ns
 refine Ex.pu ?_
 refine Ex.pn ?_
 refine X.cd rfl ?_ ?_<;>intro hc1
 ·apply X.sr
  refine Ex.pu ?_
  iterate 2 refine Ex.mo ?_
  apply Ex.nil
  refine X.ret ?_
  refine RetQ.ret (.many (by decide) (.cons (.cellS rfl rfl rfl ty3 (LeV.eq ?_)) (.cons (.cellS rfl rfl rfl ty28 (LeV.eq ?_)) .nil)))
  all_goals (first | (simp_all; done))
 apply X.skip
 apply X.seq
 apply X.sr
 refine Ex.pu ?_
 refine Ex.ca (zdd m) ?_
 apply Ex.nil
 apply X.block
 refine X.range (sl := [3, 4, 5]) (fun j => ([.ptr 3 0 0 0, .ptr 4 0 0 0, .ptr 5 0 0 0], [(3, .box [iv v] 3), (4, .box [iv 0] 3), (5, .box [iv 0] 28)])) (fun j => ∀ i, i < j -> ∀ k, (perfL m)[i]? = some k -> ¬ k < v) 900001 900002 rfl rfl (by decide) (fun j zs hj => by obtain ⟨k, _, rfl⟩ := zbZ hj; rfl) (zcg m) trivial rfl rfl (by decide) (Nat.zero_le _) (by simp) (fun j zs hj => by obtain ⟨k, _, rfl⟩ := zbZ hj; rfl) (fun _ => rfl) rfl rfl (fun l o us => Imp.au) (fun i hi => absurd hi (Nat.not_lt_zero i)) (fun j zs hj hJ l ready busy rb vs g w hb hyB => ?_) (fun hJ => ?_)
 ·obtain ⟨k, hk, rfl⟩ := zbZ hj
  apply X.region
  refine Ex.pn ?_
  refine ⟨rfl, rfl, ?_⟩
  apply X.block
  apply X.sr
  iterate 2 refine Ex.pu ?_
  refine Ex.pn ?_
  refine X.cd rfl ?_ ?_<;>intro hc2
  ·apply X.sr
   refine Ex.pu ?_
   iterate 2 refine Ex.mo ?_
   apply Ex.nil
   refine X.ret ?_
   refine ⟨[.ptr 3 0 0 0, .ptr 4 0 0 0, .ptr 5 0 0 0], [(3, .box [iv v] 3), (4, .box [iv k] 3), (5, .box [iv 0] 28)], Imp.au, ?_⟩
   refine RetQ.ret (.many (by decide) (.cons (.cellS rfl rfl rfl ty3 (LeV.eq ?_)) (.cons (.cellS rfl rfl rfl ty28 (LeV.eq ?_)) .nil)))
   all_goals (first | (simp only [hc1, if_true]; rw [zn5 hk hJ hc2]; done) | (simp_all; done))
  apply X.skip
  refine ⟨[.ptr 3 0 0 0, .ptr 4 0 0 0, .ptr 5 0 0 0], [(3, .box [iv v] 3), (4, .box [iv 0] 3), (5, .box [iv 0] 28)], Imp.au, rfl, fun i hi k2 hk2 => by
 rcases Nat.lt_succ_iff_lt_or_eq.1 hi with h | h
 ·exact hJ i h k2 hk2
 ·subst h; rw [hk] at hk2; injection hk2 with hk2; subst hk2; omega⟩
 apply X.sr
 iterate 2 refine Ex.mo ?_
 apply Ex.nil
 refine X.ret ?_
 refine RetQ.ret (.many (by decide) (.cons (.cellS rfl rfl rfl ty3 (LeV.eq ?_)) (.cons (.cellS rfl rfl rfl ty28 (LeV.eq ?_)) .nil)))
 all_goals (first | (simp only [hc1, if_true]; rw [zmk (by simpa [perfX] using hJ)]; done) | (simp_all; done))
end Go.Rse
