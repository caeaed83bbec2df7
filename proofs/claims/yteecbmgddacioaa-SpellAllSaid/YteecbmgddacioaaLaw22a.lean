/-
  Walks: the statement on rests.
-/
import Derived.Test.YteecbmgddacioaaSpell3
import Derived.Test.YteecbmgddacioaaSpR
import Derived.Test.YteecbmgddacioaaKit1
namespace Go.Rse
open Go Go.Proofs Go.RowKit
set_option linter.unusedVariables false
set_option linter.unusedSimpArgs false
section
variable {P : Program} {C : Ctx} {st : St} {ty : TypeId}
theorem P_indexArr {t n E s k : Nat} {x y : Operand} {kk : IntKind} {i : Int} {ag : Bool} (ht : arrOk P t n E = true) (hE : tyOk P E ag s = true) (hx : ev st x = some (.ptr k 0 0 0)) (hy : ev st y = some (.int kk i)) (h0 : 0 ≤ i) (h1 : i < n) : Pur P C (.indexAddr t x y) ty st (.ptr k s i.toNat 0) := fun g a w dst pos af gd hr => by
  obtain ⟨b, hb, e⟩ := inv_ptr (ev_rv hr hx)
  have ey := inv_int (ev_rv hr hy)
  refine ⟨.pointer (some ⟨b, i.toNat * s + 0, none⟩), ?_, .ptr k s i.toNat 0 b hb⟩
  simp [execOp, Instr.indexAt, asIntOf, e, ey, run_underlying (arrOk_under ht), h0, h1, run_sizeOf hE, add_plain', Instr.sureAddr]
end
attribute [local irreducible] Pur StepA StepM Ex X ExG Fn Imp LeV LeB FnO It YStep
/-- How often each number from 0 to 8 stands among the first k. -/
def cntC (l : List Int) (k : Nat) : List AV := (List.range 9).map fun (v : Nat) => iv (cntI (l.take k) (v : Int))
theorem cntC_len (l : List Int) (k : Nat) : (cntC l k).length = 9 := by unfold cntC; simp
theorem cntC_get {l : List Int} {k : Nat} {x : Int} (h0 : 0 ≤ x) (h8 : x ≤ 8) : (cntC l k)[x.toNat * 1 + 0]? = some (iv (cntI (l.take k) x)) := by
  unfold cntC
  rw [List.getElem?_map, List.getElem?_range (by omega)]
  show some (iv (cntI (l.take k) ((x.toNat * 1 + 0 : Nat) : Int))) = _
  rw [show ((x.toNat * 1 + 0 : Nat) : Int) = x by omega]
theorem cnt_snoc {l : List Int} {k : Nat} {x v : Int} (hx : l[k]? = some x) : cntI (l.take (k + 1)) v = cntI (l.take k) v + if x = v then 1 else 0 := by
  unfold cntI
  rw [List.take_add_one, hx]
  simp only [Option.toList_some, List.countP_append, List.countP_cons, List.countP_nil]
  by_cases h : x = v <;> simp [h]
theorem cntC_set {l : List Int} {k : Nat} {x : Int} (hx : l[k]? = some x) (h0 : 0 ≤ x) (h8 : x ≤ 8) : setAt (cntC l k) (x.toNat * 1 + 0) [iv (cntI (l.take k) x + 1)] = cntC l (k + 1) := by
  apply List.ext_getElem?
  intro q
  unfold setAt cntC
  simp only [List.getElem?_append, List.length_append, List.length_take, List.length_map, List.length_range, List.length_cons, List.length_nil, List.getElem?_take, List.getElem?_drop, List.getElem?_map]
  by_cases h1 : q < x.toNat
  · rw [if_pos (by omega), if_pos (by omega), if_pos (by omega), List.getElem?_range (by omega)]
    show some (iv _) = some (iv _)
    rw [cnt_snoc hx, if_neg (by omega)]; simp
  · by_cases h2 : q = x.toNat
    · subst h2
      rw [if_pos (by omega), if_neg (by omega), List.getElem?_range (by omega)]
      rw [show x.toNat - min (x.toNat * 1 + 0) 9 = 0 by omega]
      show some (iv _) = some (iv _)
      rw [cnt_snoc hx, show ((x.toNat : Nat) : Int) = x by omega, if_pos rfl]
    · rw [if_neg (by omega)]
      rw [show x.toNat * 1 + 0 + (0 + 1) + (q - (min (x.toNat * 1 + 0) 9 + (0 + 1))) = q by omega]
      by_cases h3 : q < 9
      · rw [List.getElem?_range h3]
        show some (iv _) = some (iv _)
        rw [cnt_snoc hx, if_neg (by omega)]; simp
      · rw [List.getElem?_eq_none (by simp; omega)]; rfl
theorem cntI_le (l : List Int) (v : Int) : 0 ≤ cntI l v ∧ cntI l v ≤ (l.length : Int) := by
  have := List.countP_le_length (p := fun u => decide (u = v)) (l := l)
  unfold cntI; omega
theorem aw22_A : bthE mCirc ⟨4, 1⟩ = 0 ∧ allE mCirc ⟨4, 1⟩ = [spOf 3 3, spOf 3 5, spOf 4 4] := by decide +kernel
theorem aw22_R : rstE mCirc ⟨9, 1⟩ = 0 ∧ rstV mCirc ⟨9, 1⟩ = [3, 4, 5] := by decide +kernel
theorem C_tactuslaw22_sameSpellings (a b : List Sp) (hl : a.length ≤ 4000000000) : Fn Try.prog 95 [spsA a, spsA b] (.bool (decide (a = b))) := by
  refine Fn.go Try.func95 Try.ntmps95 (fun g w d => ?_)
  refine X.seq ?_
  refine X.region ?_
  refine Ex.pu ?_
  refine Ex.nil ?_
  refine X.seq ?_
  refine X.seq ?_
  refine X.region ?_
  iterate 5 refine Ex.pu ?_
  refine Ex.nil ?_
  refine X.cd rfl (fun hc1 => ?_) (fun hc1 => ?_)
  · refine X.seq ?_
    refine X.region ?_
    refine Ex.pu ?_
    refine Ex.nil ?_
    refine X.ret ?_
    refine RetQ.ret (.one (.tmp rfl (LeV.eq ?_)))
    all_goals (congr 1; exact (decide_eq_false fun e => by subst e; omega).symm)
  refine X.skip ?_
  refine X.seq ?_
  refine X.seq ?_
  refine X.region ?_
  refine Ex.pu ?_
  refine Ex.nil ?_
  refine X.block ?_
  refine X.lp (ι := Nat) (fun (k : Nat) => [(0, spsA a), (1, spsA b), (5, iv (k : Int))]) (fun (k : Nat) => []) (fun (k : Nat) => k ≤ a.length ∧ a.take k = b.take k) (fun (k : Nat) => a.length - k) 0 (fun k hk => ?_) (hJ := by
    exact ⟨by omega, rfl⟩)
  obtain ⟨hk1, hk2⟩ := hk
  refine X.seq ?_
  refine X.seq ?_
  refine X.region ?_
  iterate 4 refine Ex.pu ?_
  refine Ex.nil ?_
  refine X.cd rfl (fun hc2 => ?_) (fun hc2 => ?_)
  · obtain ⟨x, hx⟩ : ∃ x, a[k]? = some x := ⟨_, List.getElem?_eq_getElem (by omega)⟩
    have hx2 : a[(k : Int).toNat]? = some x := by simpa using hx
    obtain ⟨y, hy⟩ : ∃ y, b[k]? = some y := ⟨_, List.getElem?_eq_getElem (by omega)⟩
    have hy2 : b[(k : Int).toNat]? = some y := by simpa using hy
    refine X.skip ?_
    refine X.seq ?_
    refine X.block ?_
    refine X.seq ?_
    refine X.dw [17,18,19,20,21,22,23,24,25] [0,0,3,7,0,0,48,112,255] mo ?_
    iterate 8 refine ChM.pu ?_
    refine ChM.pu (hs := by exact Q_neq_st (eqL_spE _ _) inferInstance TyK.h rfl rfl rfl rfl rfl) ?_
    refine ChM.tl ?_
    refine Ex.nil ?_
    refine X.cd rfl (fun hc3 => ?_) (fun hc3 => ?_)
    · refine X.seq ?_
      refine X.region ?_
      refine Ex.pu ?_
      refine Ex.nil ?_
      refine X.ret ?_
      refine RetQ.ret (.one (.tmp rfl (LeV.eq ?_)))
      all_goals (congr 1; exact (decide_eq_false (ne_at hx hy (by simpa using hc3))).symm)
    refine X.skip ?_
    refine X.region ?_
    iterate 3 refine Ex.pu ?_
    refine Ex.nil ?_
    refine X.bk (k + 1) (hJ := by
      exact ⟨by omega, take_step hx (by rw [hy]; congr 1; first | exact (by simpa using hc3 : x = y).symm | (simp at hc3; exact hc3.symm)) hk2⟩)
  · refine X.exit ?_
    refine X.seq ?_
    refine X.region ?_
    refine Ex.pu ?_
    refine Ex.nil ?_
    refine X.ret ?_
    refine RetQ.ret (.one (.tmp rfl (LeV.eq ?_)))
    all_goals (congr 1; exact (decide_eq_true (eq_take (by omega) (by omega) hk2)).symm)
theorem C_sps_eq (a : List Sp) (h : a.length ≤ 4000000000) : Fn Try.prog 95 [spsA a, spsA a] (.bool true) := by
  have := C_tactuslaw22_sameSpellings a a h; simpa using this
theorem C_tactuslaw22_of (v w : Int) : Fn Try.prog 103 [iv v, iv w] (spA (spOf v w)) := by
  refine Fn.go Try.func103 Try.ntmps103 (fun g w d => ?_)
  refine X.seq ?_
  refine X.region ?_
  refine Ex.al ?_
  refine Ex.nil ?_
  refine X.seq ?_
  refine X.region ?_
  iterate 5 refine Ex.pu ?_
  refine ExF.at 5 ?_
  refine ExF.pu ?_
  iterate 2 refine ExF.gi ?_
  iterate 2 refine ExF.pu ?_
  iterate 2 refine ExF.gi ?_
  iterate 4 refine ExF.pu ?_
  iterate 2 refine ExF.gi ?_
  refine ExF.done ?_
  iterate 3 refine Ex.pu ?_
  refine Ex.mo ?_
  refine Ex.nil ?_
  refine X.ret ?_
  refine RetQ.ret (.one (.cellA rfl rfl rfl rfl ty100 (LeV.eq ?_)))
  all_goals (rfl)
theorem C_tactuslaw22_circle  : Fn Try.prog 104 [] (mnA mCirc) := by
  refine Fn.go Try.func104 Try.ntmps104 (fun g w d => ?_)
  refine X.seq ?_
  refine X.region ?_
  refine Ex.al ?_
  refine Ex.nil ?_
  refine X.seq ?_
  refine X.region ?_
  refine Ex.pu ?_
  refine Ex.mo ?_
  refine Ex.nil ?_
  refine X.ret ?_
  refine RetQ.ret (.one (.cellA rfl rfl rfl rfl ty23 (LeV.eq ?_)))
  all_goals (first | rfl | (simp_all; done))
theorem C_tactuslaw22_awake  : Fn Try.prog 29 [] (.bool true) := by
  have hA := C_spell_All mCirc ⟨4, 1⟩
  rw [aw22_A.1, aw22_A.2] at hA
  have hR := C_spell_Rests mCirc ⟨9, 1⟩
  rw [aw22_R.1, aw22_R.2] at hR
  refine Fn.go Try.func29 Try.ntmps29 (fun g w d => ?_)
  refine X.seq ?_
  refine X.region ?_
  refine Ex.pu ?_
  refine Ex.nil ?_
  refine X.seq ?_
  refine X.region ?_
  refine Ex.ca C_tactuslaw22_circle ?_
  refine Ex.pu ?_
  refine Ex.ca hA ?_
  iterate 5 refine Ex.pu ?_
  refine Ex.nil ?_
  refine X.seq ?_
  refine X.region ?_
  refine Ex.ca C_tactuslaw22_circle ?_
  refine Ex.pu ?_
  refine Ex.ca hR ?_
  iterate 5 refine Ex.pu ?_
  refine Ex.nil ?_
  refine X.seq ?_
  refine X.region ?_
  iterate 3 refine Ex.pu ?_
  refine Ex.unguard rfl rfl rfl ?_
  refine Ex.pu ?_
  refine Ex.unguard rfl rfl rfl ?_
  iterate 3 refine Ex.pu ?_
  refine Ex.unguard rfl rfl rfl ?_
  refine Ex.pu ?_
  refine Ex.unguard rfl rfl rfl ?_
  refine Ex.ca (C_tactuslaw22_of _ _) ?_
  refine Ex.unguard rfl rfl rfl ?_
  refine Ex.ca (C_tactuslaw22_of _ _) ?_
  refine Ex.unguard rfl rfl rfl ?_
  refine Ex.ca (C_tactuslaw22_of _ _) ?_
  refine Ex.unguard rfl rfl rfl ?_
  refine Ex.bs spE [spOf 3 3, spOf 3 5, spOf 4 4] ?_
  refine Ex.unguard rfl rfl rfl ?_
  refine Ex.imp (Imp.freeze (k := 28) rfl) ?_
  refine Ex.ca (C_sps_eq [spOf 3 3, spOf 3 5, spOf 4 4] (by decide)) ?_
  iterate 2 refine Ex.pu ?_
  refine Ex.unguard rfl rfl rfl ?_
  refine Ex.pu ?_
  refine Ex.unguard rfl rfl rfl ?_
  refine Ex.bs intE [3, 4, 5] ?_
  refine Ex.unguard rfl rfl rfl ?_
  refine Ex.imp (Imp.freeze (k := 33) rfl) ?_
  refine Ex.ca (C_ints_eq [3, 4, 5] (by decide)) ?_
  iterate 2 refine Ex.pu ?_
  refine Ex.nil ?_
  refine X.ret ?_
  refine RetQ.ret (.one (.tmp rfl (LeV.eq ?_)))
  all_goals (rfl)
attribute [local irreducible] fullT rstV rstE sumE sumV mMk
set_option maxHeartbeats 2000000 in
theorem C_tactuslaw22_SpellRests (n a b : Int) (hn : -9223372036854775808 ≤ n ∧ n ≤ 9223372036854775807) (ha : -9223372036854775808 ≤ a ∧ a ≤ 9223372036854775807) (hb : -9223372036854775808 ≤ b ∧ b ≤ 9223372036854775807) : Fn Try.prog 3 [iv n, iv a, iv b] (.bool true) := by
  have hck := mMk_ck n
  have hM := C_tactuskit_Mens n hn
  generalize mMk n = m at hM hck
  obtain ⟨q, hq, hq4⟩ : ∃ q, ([1, 2, 4, 8] : List Int)[(b % 4).toNat]? = some q ∧ (q = 1 ∨ q = 2 ∨ q = 4 ∨ q = 8) := by
    have h4 : (b % 4).toNat = 0 ∨ (b % 4).toNat = 1 ∨ (b % 4).toNat = 2 ∨ (b % 4).toNat = 3 := by omega
    rcases h4 with h | h | h | h <;> rw [h] <;> exact ⟨_, rfl, by decide⟩
  obtain ⟨r, r1, r16, ht⟩ := tE_of (n := 1 + a % 2000) (q := q) (by omega) hq4
  have hT := C_tactuskit_T (1 + a % 2000) q (by omega) (by omega)
  generalize (⟨(1 + a % 2000) / gI (1 + a % 2000) q, q / gI (1 + a % 2000) q⟩ : Tm) = t at hT ht
  have hRs := C_spell_Rests m t
  have hlaw := rst_law hck ht r1 r16
  rw [hlaw.1, hlaw.2] at hRs
  have hr0 : 0 ≤ r := by omega
  have hlen := out_len hck hr0 r16 8 (by omega)
  have hmem : ∀ x, x ∈ outK m r 8 → 1 ≤ x ∧ x ≤ 8 := fun x hx => out_mem 8 x hx
  have hinc := out_inc (m := m) (r := r) 8
  have hcnt : ∀ j : Nat, j < 7 → cntI (outK m r 8) (2 + (j : Int)) < m.p (1 + (j : Int)) := fun j hj => by
    have h1 := cnt_out hck hr0 8 (j + 1) (by omega)
    rw [if_pos (by omega)] at h1
    rw [show (2 : Int) + (j : Int) = 1 + ((j + 1 : Nat) : Int) by omega, h1]
    exact q_lt hck j (by omega)
  have hsum := sum_law hck ht r16
  generalize outK m r 8 = l at hRs hlen hmem hinc hcnt hsum
  have hS := C_span_Sum (l.map (fullT m)) (by rw [List.length_map]; omega)
  rw [hsum.1, hsum.2] at hS
  have hd0 : [] = (l.take 0).map (fullT m) := rfl
  have hc0 : [AV.int .i64 0, .int .i64 0, .int .i64 0, .int .i64 0, .int .i64 0, .int .i64 0, .int .i64 0, .int .i64 0, .int .i64 0] = cntC l 0 := by unfold cntC cntI; rfl
  refine Fn.go Try.func3 Try.ntmps3 (fun g w d => ?_)
  refine X.seq ?_
  refine X.region ?_
  refine Ex.pu ?_
  refine Ex.nil ?_
  refine X.seq ?_
  refine X.region ?_
  refine Ex.pu ?_
  refine Ex.ca hM ?_
  refine Ex.al ?_
  refine Ex.mo ?_
  refine Ex.nil ?_
  refine X.seq ?_
  refine X.region ?_
  refine Ex.pu ?_
  refine Ex.ca (C_tactuskit_Mod a 2000 ha (by omega)) ?_
  refine Ex.pu ?_
  refine Ex.bs intE [1, 2, 4, 8] ?_
  refine Ex.pu ?_
  refine Ex.ca (C_tactuskit_Mod b 4 hb (by omega)) ?_
  refine Ex.imp (Imp.freeze (k := 23) rfl) ?_
  iterate 2 refine Ex.pu ?_
  refine Ex.ca hT ?_
  refine Ex.al ?_
  refine Ex.mo ?_
  refine Ex.nil ?_
  refine X.seq ?_
  refine X.region ?_
  iterate 2 refine Ex.pu ?_
  refine Ex.ca hRs ?_
  iterate 5 refine Ex.pu ?_
  refine Ex.nil ?_
  refine X.seq ?_
  refine X.seq ?_
  refine X.region ?_
  iterate 2 refine Ex.pu ?_
  refine Ex.nil ?_
  refine X.cd rfl (fun hc1 => ?_) (fun hc1 => ?_)
  · simp at hc1
  refine X.skip ?_
  refine X.seq ?_
  refine X.region ?_
  refine Ex.pu ?_
  refine Ex.nil ?_
  refine X.seq ?_
  refine X.imp (Imp.mkrow tmE 26 2 11 11 rfl rfl) ?_
  refine X.region ?_
  refine Ex.al ?_
  refine Ex.nil ?_
  refine X.seq ?_
  refine X.seq ?_
  refine X.region ?_
  refine Ex.pu ?_
  refine Ex.nil ?_
  refine X.block ?_
  refine X.lp (ι := Nat) (fun (k : Nat) => [(7, .ptr 7 0 0 0), (8, .ptr 8 0 0 0), (9, intsA l), (11, .own 11), (12, .ptr 12 0 0 0), (13, iv (k : Int))]) (fun (k : Nat) => [(7, .box (mnE m) 23), (8, .box (tmE t) 26), (11, .row tmE ((l.take k).map (fullT m)) 26 2), (12, .box (cntC l k) 34)]) (fun (k : Nat) => k ≤ l.length) (fun (k : Nat) => l.length - k) 0 (fun k hk => ?_) (h0 := by
    exact Imp.ax)
  refine X.seq ?_
  refine X.seq ?_
  refine X.region ?_
  iterate 4 refine Ex.pu ?_
  refine Ex.nil ?_
  refine X.cd rfl (fun hc2 => ?_) (fun hc2 => ?_)
  · obtain ⟨x, hx⟩ : ∃ x, l[k]? = some x := ⟨_, List.getElem?_eq_getElem (by omega)⟩
    have hx2 : l[(k : Int).toNat]? = some x := by simpa using hx
    have hx1 := hmem x (List.mem_of_getElem? hx)
    have hprev : 0 < k → l.getD ((k : Int) - 1).toNat default ≤ x := fun h0 => by
      have hlk : ((k : Int) - 1).toNat < l.length := by omega
      have hkl : k < l.length := by omega
      have := List.pairwise_iff_getElem.1 hinc ((k : Int) - 1).toNat k hlk hkl (by omega)
      rw [List.getD_eq_getElem?_getD, List.getElem?_eq_getElem hlk]
      rw [(List.getElem?_eq_some_iff.1 hx).2] at this; exact this
    have hst : (l.take k).map (fullT m) ++ [fullT m x] = (l.take (k + 1)).map (fullT m) := by rw [List.take_add_one, hx, List.map_append]; rfl
    have hcell := cntC_get (l := l) (k := k) (x := x) (by omega) (by omega)
    have hlt : x.toNat * 1 + 0 < (cntC l k).length := by rw [cntC_len]; omega
    have hst2 := cntC_set hx (by omega) (by omega)
    have hcb := cntI_le (l.take k) x
    have htl : (l.take k).length ≤ l.length := by rw [List.length_take]; omega
    refine X.skip ?_
    refine X.seq ?_
    refine X.block ?_
    refine X.seq ?_
    refine X.dw [14,43,44,45,46,47,48,49,50,51] [0,0,0,6,14,31,63,127,127,0,767,2047] mo ?_
    iterate 5 refine ChM.pu ?_
    refine ChM.ca (C_mens_FullV hck hx1.1 hx1.2) ?_
    iterate 3 refine ChM.pu ?_
    refine ChM.step rfl rfl rfl (A_alloc (k := 14) zc26) rfl ?_
    refine ChM.ltJ 8 ⟨[(7, .ptr 7 0 0 0), (8, .ptr 8 0 0 0), (9, intsA l), (11, .own 11), (12, .ptr 12 0 0 0), (13, iv (k : Int)), (14, .ptr 14 0 0 0), (15, iv 0)], [(7, .box (mnE m) 23), (8, .box (tmE t) 26), (11, .row tmE ((l.take k).map (fullT m)) 26 2), (12, .box (cntC l k) 34), (14, .box (tmE (fullT m x)) 26)]⟩ (fun Q hQ => ?_) (fun Q hQ => ?_) ?_
    · refine Ex.mo ?_
      refine Ex.pu ?_
      exact Ex.imp Imp.ax hQ
    · refine Ex.mo ?_
      iterate 2 refine Ex.pu ?_
      exact Ex.imp Imp.ax hQ
    refine Ex.nil ?_
    refine X.seq ?_
    refine X.seq ?_
    refine X.dw [52,53,54,55,56,57,58,59,60,61,62,63,64,65,66,67,68,69,70,71,72,73,74,75,76,77,78,79,80,81,82,83] [0,1,3,7,7,31,63,127,255,511,1023,1023,4095,8191,16383,32767,65535,131071,262143,524287,1048575,1048575,4194303,8388607,1048575,1048575,34603007,118489087,252706815,536870911,1073741823,2147483647] mo ?_
    iterate 3 refine ChM.pu ?_
    iterate 5 refine ChM.gi ?_
    iterate 2 refine ChM.pu ?_
    iterate 5 refine ChM.gi ?_
    iterate 2 refine ChM.pu ?_
    iterate 14 refine ChM.gi ?_
    refine ChM.pu ?_
    refine ChM.tl ?_
    refine Ex.nil ?_
    refine X.cd rfl (fun hc3 => ?_) (fun hc3 => ?_)
    · (first | omega | (simp at hc3; omega))
    refine X.skip ?_
    refine X.seq ?_
    refine X.region ?_
    iterate 2 refine Ex.pu ?_
    refine Ex.bs tmE [fullT m x] ?_
    refine Ex.mo ?_
    refine Ex.pu ?_
    refine Ex.nil ?_
    refine X.region ?_
    iterate 4 refine Ex.pu ?_
    refine Ex.pu (hs := P_indexArr ArK.h TyK.h rfl rfl (by omega) (by omega)) ?_
    refine Ex.pu (hs := P_load_box rfl rfl hcell TyK.h) ?_
    refine Ex.pu ?_
    refine Ex.pu (hs := P_indexArr ArK.h TyK.h rfl rfl (by omega) (by omega)) ?_
    refine Ex.mo (hs := M_store rfl rfl rfl rfl TyK.h hlt) ?_
    refine Ex.nil ?_
    refine X.region ?_
    iterate 3 refine Ex.pu ?_
    refine Ex.nil ?_
    refine X.bk (k + 1) (hI := Imp.ax)
  · have hkl : k = l.length := by omega
    subst hkl
    have htk : (l.take l.length).map (fullT m) = l.map (fullT m) := by rw [List.take_length]
    refine X.exit ?_
    refine X.seq ?_
    refine X.seq ?_
    refine X.region ?_
    refine Ex.pu ?_
    refine Ex.nil ?_
    refine X.block ?_
    refine X.lp (ι := Nat) (fun (j : Nat) => [(7, .ptr 7 0 0 0), (8, .ptr 8 0 0 0), (11, .own 11), (12, .ptr 12 0 0 0), (16, iv (2 + (j : Int)))]) (fun (j : Nat) => [(7, .box (mnE m) 23), (8, .box (tmE t) 26), (11, .row tmE (l.map (fullT m)) 26 2), (12, .box (cntC l l.length) 34)]) (fun (j : Nat) => j ≤ 7) (fun (j : Nat) => 7 - j) 0 (fun j hk => ?_) (h0 := by
      exact Imp.ax)
    refine X.seq ?_
    refine X.seq ?_
    refine X.region ?_
    iterate 2 refine Ex.pu ?_
    refine Ex.nil ?_
    refine X.cd rfl (fun hc4 => ?_) (fun hc4 => ?_)
    · have hcell2 := cntC_get (l := l) (k := l.length) (x := 2 + (j : Int)) (by omega) (by omega)
      have hcj := hcnt j (by omega)
      rw [List.take_length] at hcell2
      rw [show 1 + (j : Int) = 2 + (j : Int) - 1 by omega] at hcj
      refine X.skip ?_
      refine X.seq ?_
      refine X.block ?_
      refine X.seq ?_
      refine X.dw [100,101,102,103,104,105,106,107] [0,1,3,0,0,16,56,127] mo ?_
      refine ChM.pu ?_
      refine ChM.pu (hs := by exact P_indexArr ArK.h TyK.h rfl rfl (by omega) (by omega)) ?_
      refine ChM.pu (hs := by exact P_load_box rfl rfl hcell2 TyK.h) ?_
      iterate 3 refine ChM.pu ?_
      refine ChM.ca (C_tactuskit_Parts m (2 + (j : Int) - 1)) ?_
      refine ChM.pu ?_
      refine ChM.tl ?_
      refine Ex.nil ?_
      refine X.cd rfl (fun hc5 => ?_) (fun hc5 => ?_)
      · omega
      refine X.skip ?_
      refine X.region ?_
      iterate 3 refine Ex.pu ?_
      refine Ex.nil ?_
      refine X.bk (j + 1) (hI := Imp.ax)
    · refine X.exit ?_
      refine X.seq ?_
      refine X.imp (Imp.freeze (k := 11) rfl) ?_
      refine X.region ?_
      refine Ex.pu ?_
      refine Ex.ca hS ?_
      iterate 3 refine Ex.pu ?_
      refine Ex.al ?_
      refine Ex.mo ?_
      refine Ex.pu ?_
      refine Ex.nil ?_
      refine X.seq ?_
      refine X.region ?_
      iterate 2 refine Ex.pu ?_
      refine ExF.at 2 ?_
      refine ExF.pu ?_
      iterate 3 refine ExF.gi ?_
      iterate 2 refine ExF.pu ?_
      refine ExF.cg C_tactuslaw22_awake ?_
      refine ExF.done ?_
      iterate 2 refine Ex.pu ?_
      refine Ex.nil ?_
      refine X.ret ?_
      refine RetQ.ret (.one (.tmp rfl (LeV.eq ?_)))
      all_goals (first | rfl | simp)
end Go.Rse
