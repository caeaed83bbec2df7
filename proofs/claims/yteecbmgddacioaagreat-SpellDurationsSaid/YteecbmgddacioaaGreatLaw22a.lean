/-
  Walks: the statement on rests.
-/
import Derived.Test.YteecbmgddacioaaGreatSpell3
import Derived.Test.YteecbmgddacioaaGreatSpR
import Derived.Test.YteecbmgddacioaaGreatKit1
namespace Go.Rse
open Go Go.Proofs Go.RowKit
set_option linter.unusedVariables false
set_option linter.unusedSimpArgs false
section
variable {P : Program} {C : Ctx} {st : St} {ty : TypeId}
theorem P_indexArr {t n E s k : Nat} {x y : Operand} {kk : IntKind} {i : Int} {ag : Bool} (ht : arrOk P t n E = true) (hE : tyOk P E ag s = true) (hx : ev st x = some (.ptr k 0 0 0)) (hy : ev st y = some (.int kk i)) (h0 : 0 ≤ i) (h1 : i < n) : Pur P C (.indexAddr t x y) ty st (.ptr k s i.toNat 0) := fun g a w dst pos af gd hr => by
  obtain ⟨b, hb, e⟩ := inv_ptr (ev_rv hr hx)
  have ey := inv_int (ev_rv hr hy)
  refine ⟨.pointer (some ⟨b, i.toNat * s + 0, none⟩), ?_, .ptr k s i.toNat 0 b hb⟩
  simp [execOp, Instr.indexAt, asIntOf, e, ey, run_underlying (arrOk_under ht), h0, h1, run_sizeOf hE, add_plain', Instr.sureAddr]
end
attribute [local irreducible] Pur StepA StepM Ex X ExG Fn Imp LeV LeB FnO It YStep
/-- How often each number from 0 to 8 stands among the first k. -/
def cntC (l : List Int) (k : Nat) : List AV := (List.range 9).map fun (v : Nat) => iv (cntI (l.take k) (v : Int))
theorem cntC_len (l : List Int) (k : Nat) : (cntC l k).length = 9 := by unfold cntC; simp
theorem cntC_get {l : List Int} {k : Nat} {x : Int} (h0 : 0 ≤ x) (h8 : x ≤ 8) : (cntC l k)[x.toNat * 1 + 0]? = some (iv (cntI (l.take k) x)) := by
  unfold cntC
  rw [List.getElem?_map, List.getElem?_range (by omega)]
  show some (iv (cntI (l.take k) ((x.toNat * 1 + 0 : Nat) : Int))) = _
  rw [show ((x.toNat * 1 + 0 : Nat) : Int) = x by omega]
theorem cnt_snoc {l : List Int} {k : Nat} {x v : Int} (hx : l[k]? = some x) : cntI (l.take (k + 1)) v = cntI (l.take k) v + if x = v then 1 else 0 := by
  unfold cntI
  rw [List.take_add_one, hx]
  simp only [Option.toList_some, List.countP_append, List.countP_cons, List.countP_nil]
  by_cases h : x = v <;> simp [h]
theorem cntC_set {l : List Int} {k : Nat} {x : Int} (hx : l[k]? = some x) (h0 : 0 ≤ x) (h8 : x ≤ 8) : setAt (cntC l k) (x.toNat * 1 + 0) [iv (cntI (l.take k) x + 1)] = cntC l (k + 1) := by
  apply List.ext_getElem?
  intro q
  unfold setAt cntC
  simp only [List.getElem?_append, List.length_append, List.length_take, List.length_map, List.length_range, List.length_cons, List.length_nil, List.getElem?_take, List.getElem?_drop, List.getElem?_map]
  by_cases h1 : q < x.toNat
  · rw [if_pos (by omega), if_pos (by omega), if_pos (by omega), List.getElem?_range (by omega)]
    show some (iv _) = some (iv _)
    rw [cnt_snoc hx, if_neg (by omega)]; simp
  · by_cases h2 : q = x.toNat
    · subst h2
      rw [if_pos (by omega), if_neg (by omega), List.getElem?_range (by omega)]
      rw [show x.toNat - min (x.toNat * 1 + 0) 9 = 0 by omega]
      show some (iv _) = some (iv _)
      rw [cnt_snoc hx, show ((x.toNat : Nat) : Int) = x by omega, if_pos rfl]
    · rw [if_neg (by omega)]
      rw [show x.toNat * 1 + 0 + (0 + 1) + (q - (min (x.toNat * 1 + 0) 9 + (0 + 1))) = q by omega]
      by_cases h3 : q < 9
      · rw [List.getElem?_range h3]
        show some (iv _) = some (iv _)
        rw [cnt_snoc hx, if_neg (by omega)]; simp
      · rw [List.getElem?_eq_none (by simp; omega)]; rfl
theorem cntI_le (l : List Int) (v : Int) : 0 ≤ cntI l v ∧ cntI l v ≤ (l.length : Int) := by
  have := List.countP_le_length (p := fun u => decide (u = v)) (l := l)
  unfold cntI; omega
theorem aw22_A : bthE mCirc ⟨4, 1⟩ = 0 ∧ allE mCirc ⟨4, 1⟩ = [spOf 3 3, spOf 3 5, spOf 4 4] := by decide +kernel
theorem aw22_R : rstE mCirc ⟨9, 1⟩ = 0 ∧ rstV mCirc ⟨9, 1⟩ = [3, 4, 5] := by decide +kernel
theorem C_tactuslaw22_sameSpellings (a b : List Sp) (hl : a.length ≤ 4000000000) : Fn Tryz.prog 20 [spsA a, spsA b] (.bool (decide (a = b))) := by
  refine Fn.go Tryz.func20 Tryz.ntmps20 (fun g w d => ?_)
  refine X.seq ?_
  refine X.region ?_
  refine Ex.pu ?_
  refine Ex.nil ?_
  refine X.seq ?_
  refine X.seq ?_
  refine X.region ?_
  iterate 5 refine Ex.pu ?_
  refine Ex.nil ?_
  refine X.cd rfl (fun hc1 => ?_) (fun hc1 => ?_)
  · refine X.seq ?_
    refine X.region ?_
    refine Ex.pu ?_
    refine Ex.nil ?_
    refine X.ret ?_
    refine RetQ.ret (.one (.tmp rfl (LeV.eq ?_)))
    all_goals (congr 1; exact (decide_eq_false fun e => by subst e; omega).symm)
  refine X.skip ?_
  refine X.seq ?_
  refine X.seq ?_
  refine X.region ?_
  refine Ex.pu ?_
  refine Ex.nil ?_
  refine X.block ?_
  refine X.lp (ι := Nat) (fun (k : Nat) => [(0, spsA a), (1, spsA b), (5, iv (k : Int))]) (fun (k : Nat) => []) (fun (k : Nat) => k ≤ a.length ∧ a.take k = b.take k) (fun (k : Nat) => a.length - k) 0 (fun k hk => ?_) (hJ := by
    exact ⟨by omega, rfl⟩)
  obtain ⟨hk1, hk2⟩ := hk
  refine X.seq ?_
  refine X.seq ?_
  refine X.region ?_
  iterate 4 refine Ex.pu ?_
  refine Ex.nil ?_
  refine X.cd rfl (fun hc2 => ?_) (fun hc2 => ?_)
  · obtain ⟨x, hx⟩ : ∃ x, a[k]? = some x := ⟨_, List.getElem?_eq_getElem (by omega)⟩
    have hx2 : a[(k : Int).toNat]? = some x := by simpa using hx
    obtain ⟨y, hy⟩ : ∃ y, b[k]? = some y := ⟨_, List.getElem?_eq_getElem (by omega)⟩
    have hy2 : b[(k : Int).toNat]? = some y := by simpa using hy
    refine X.skip ?_
    refine X.seq ?_
    refine X.block ?_
    refine X.seq ?_
    refine X.dw [17,18,19,20,21,22,23,24,25] [0,0,3,7,0,0,48,112,255] mo ?_
    iterate 8 refine ChM.pu ?_
    refine ChM.pu (hs := by exact Q_neq_st (eqL_spE _ _) inferInstance TyK.h rfl rfl rfl rfl rfl) ?_
    refine ChM.tl ?_
    refine Ex.nil ?_
    refine X.cd rfl (fun hc3 => ?_) (fun hc3 => ?_)
    · refine X.seq ?_
      refine X.region ?_
      refine Ex.pu ?_
      refine Ex.nil ?_
      refine X.ret ?_
      refine RetQ.ret (.one (.tmp rfl (LeV.eq ?_)))
      all_goals (congr 1; exact (decide_eq_false (ne_at hx hy (by simpa using hc3))).symm)
    refine X.skip ?_
    refine X.region ?_
    iterate 3 refine Ex.pu ?_
    refine Ex.nil ?_
    refine X.bk (k + 1) (hJ := by
      exact ⟨by omega, take_step hx (by rw [hy]; congr 1; first | exact (by simpa using hc3 : x = y).symm | (simp at hc3; exact hc3.symm)) hk2⟩)
  · refine X.exit ?_
    refine X.seq ?_
    refine X.region ?_
    refine Ex.pu ?_
    refine Ex.nil ?_
    refine X.ret ?_
    refine RetQ.ret (.one (.tmp rfl (LeV.eq ?_)))
    all_goals (congr 1; exact (decide_eq_true (eq_take (by omega) (by omega) hk2)).symm)
theorem C_sps_eq (a : List Sp) (h : a.length ≤ 4000000000) : Fn Tryz.prog 20 [spsA a, spsA a] (.bool true) := by
  have := C_tactuslaw22_sameSpellings a a h; simpa using this
theorem C_tactuslaw22_of (v w : Int) : Fn Tryz.prog 21 [iv v, iv w] (spA (spOf v w)) := by
  refine Fn.go Tryz.func21 Tryz.ntmps21 (fun g w d => ?_)
  refine X.seq ?_
  refine X.region ?_
  refine Ex.al ?_
  refine Ex.nil ?_
  refine X.seq ?_
  refine X.region ?_
  iterate 5 refine Ex.pu ?_
  refine ExF.at 5 ?_
  refine ExF.pu ?_
  iterate 2 refine ExF.gi ?_
  iterate 2 refine ExF.pu ?_
  iterate 2 refine ExF.gi ?_
  iterate 4 refine ExF.pu ?_
  iterate 2 refine ExF.gi ?_
  refine ExF.done ?_
  iterate 3 refine Ex.pu ?_
  refine Ex.mo ?_
  refine Ex.nil ?_
  refine X.ret ?_
  refine RetQ.ret (.one (.cellA rfl rfl rfl rfl ty25 (LeV.eq ?_)))
  all_goals (rfl)
theorem C_tactuslaw22_circle  : Fn Tryz.prog 18 [] (mnA mCirc) := by
  refine Fn.go Tryz.func18 Tryz.ntmps18 (fun g w d => ?_)
  refine X.seq ?_
  refine X.region ?_
  refine Ex.al ?_
  refine Ex.nil ?_
  refine X.seq ?_
  refine X.region ?_
  refine Ex.pu ?_
  refine Ex.mo ?_
  refine Ex.nil ?_
  refine X.ret ?_
  refine RetQ.ret (.one (.cellA rfl rfl rfl rfl ty23 (LeV.eq ?_)))
  all_goals (first | rfl | (simp_all; done))
theorem C_tactuslaw22_awake  : Fn Tryz.prog 10 [] (.bool true) := by
  have hA := C_spell_All mCirc ⟨4, 1⟩
  rw [aw22_A.1, aw22_A.2] at hA
  have hR := C_spell_Rests mCirc ⟨9, 1⟩
  rw [aw22_R.1, aw22_R.2] at hR
  refine Fn.go Tryz.func10 Tryz.ntmps10 (fun g w d => ?_)
  refine X.seq ?_
  refine X.region ?_
  refine Ex.pu ?_
  refine Ex.nil ?_
  refine X.seq ?_
  refine X.region ?_
  refine Ex.ca C_tactuslaw22_circle ?_
  refine Ex.pu ?_
  refine Ex.ca hA ?_
  iterate 5 refine Ex.pu ?_
  refine Ex.nil ?_
  refine X.seq ?_
  refine X.region ?_
  refine Ex.ca C_tactuslaw22_circle ?_
  refine Ex.pu ?_
  refine Ex.ca hR ?_
  iterate 5 refine Ex.pu ?_
  refine Ex.nil ?_
  refine X.seq ?_
  refine X.region ?_
  iterate 3 refine Ex.pu ?_
  refine Ex.unguard rfl rfl rfl ?_
  refine Ex.pu ?_
  refine Ex.unguard rfl rfl rfl ?_
  iterate 3 refine Ex.pu ?_
  refine Ex.unguard rfl rfl rfl ?_
  refine Ex.pu ?_
  refine Ex.unguard rfl rfl rfl ?_
  refine Ex.ca (C_tactuslaw22_of _ _) ?_
  refine Ex.unguard rfl rfl rfl ?_
  refine Ex.ca (C_tactuslaw22_of _ _) ?_
  refine Ex.unguard rfl rfl rfl ?_
  refine Ex.ca (C_tactuslaw22_of _ _) ?_
  refine Ex.unguard rfl rfl rfl ?_
  refine Ex.bs spE [spOf 3 3, spOf 3 5, spOf 4 4] ?_
  refine Ex.unguard rfl rfl rfl ?_
  refine Ex.imp (Imp.freeze (k := 28) rfl) ?_
  refine Ex.ca (C_sps_eq [spOf 3 3, spOf 3 5, spOf 4 4] (by decide)) ?_
  iterate 2 refine Ex.pu ?_
  refine Ex.unguard rfl rfl rfl ?_
  refine Ex.pu ?_
  refine Ex.unguard rfl rfl rfl ?_
  refine Ex.bs intE [3, 4, 5] ?_
  refine Ex.unguard rfl rfl rfl ?_
  refine Ex.imp (Imp.freeze (k := 33) rfl) ?_
  refine Ex.ca (C_ints_eq [3, 4, 5] (by decide)) ?_
  iterate 2 refine Ex.pu ?_
  refine Ex.nil ?_
  refine X.ret ?_
  refine RetQ.ret (.one (.tmp rfl (LeV.eq ?_)))
  all_goals (rfl)
attribute [local irreducible] fullT rstV rstE sumE sumV mMk
end Go.Rse
