/-
  Walks: tactuskit.RunOf.
-/
import Derived.Test.YtmbjfeaipblfcaaGreatDoorTRun3
namespace Go.Rse
open Go Go.Proofs
set_option linter.unusedVariables false
set_option linter.unusedSimpArgs false
attribute [local irreducible] Pur StepA StepM Ex X ExG Fn Imp LeV LeB FnO It YStep
attribute [local irreducible] abvK roA stp roS roK
set_option maxHeartbeats 4000000 in
theorem C_tactuskit_RunOf (m : Mn) (nums : List Int) (most : Int) (h0 : 0 ≤ most) (h1 : most ≤ 1000) (hr : ∀ x, x ∈ nums → -9223372036854775808 ≤ x ∧ x ≤ 9223372036854775807) (hnl : nums.length ≤ maxLen) : Fn Tryz.prog 88 [mnA m, intsA nums, iv most] (sgsA (roL m nums most)) := by
  have hnl2 : nums.length ≤ 9223372036854775807 := hnl
  have hst : roK m nums most 0 = ⟨[], 4, false⟩ := by unfold roK; rfl
  refine Fn.go Tryz.func88 Tryz.ntmps88 (fun g w d => ?_)
  refine X.seq ?_
  refine X.region ?_
  refine Ex.ba ?_
  refine Ex.pu ?_
  refine Ex.nil ?_
  refine X.seq ?_
  refine X.region ?_
  iterate 2 refine Ex.pu ?_
  refine Ex.ba ?_
  refine Ex.pu ?_
  refine Ex.nil ?_
  refine X.seq ?_
  refine X.seq ?_
  refine X.imp (Imp.mkrowC sgE 49 17 13 40 1 171 _ [.str ⟨#[]⟩, .own 40, iv m.Max, iv m.Mod, iv m.Tem, iv m.Pro, iv 4, .bool false, .bool false] rfl rfl rfl rfl) ?_
  refine X.region ?_
  refine Ex.pu ?_
  refine Ex.nil ?_
  refine X.block ?_
  refine X.lp (ι := Nat) (fun (k : Nat) => [(1, intsA nums), (2, iv most), (3, .ptr 3 0 0 0), (7, .ptr 13 0 0 0), (8, iv (k : Int))]) (fun (k : Nat) => [(3, .box (mnE m) 23), (13, .box [.str ⟨#[]⟩, .own 40, iv m.Max, iv m.Mod, iv m.Tem, iv m.Pro, iv (roK m nums most k).p, .bool false, .bool (roK m nums most k).d] 171), (40, .row sgE (roK m nums most k).l 49 17)]) (fun (k : Nat) => k ≤ nums.length) (fun (k : Nat) => nums.length - k) 0 (fun k hk => ?_) (h0 := by
    exact (Imp.of (by repeat' (first | exact True.intro | (refine And.intro ⟨_, rfl, ?_⟩ ?_; exact LeV.refl _))) (by repeat' (first | exact True.intro | (refine And.intro ⟨_, rfl, ?_⟩ ?_; (first | exact LeB.refl _ | (refine LeB.eq ?_; rw [hst] <;> rfl)))))))
  refine X.seq ?_
  refine X.seq ?_
  refine X.region ?_
  iterate 4 refine Ex.pu ?_
  refine ExF.at 4 ?_
  refine ExF.pu ?_
  refine ExF.gi ?_
  refine ExF.gi ?_ (hs := by intro hgd; exact P_nilCheck_ptr rfl)
  iterate 6 refine ExF.gi ?_
  refine ExF.done ?_
  refine Ex.pu ?_
  refine Ex.nil ?_
  refine X.cd rfl (fun hc1 => ?_) (fun hc1 => ?_)
  · obtain ⟨x, hx⟩ : ∃ x, nums[k]? = some x := ⟨_, List.getElem?_eq_getElem (by omega)⟩
    have hx2 : nums[(k : Int).toNat]? = some x := by simpa using hx
    have hxr := hr x (List.mem_of_getElem? hx)
    have hxn : 0 ≤ x % 1048576 ∧ x % 1048576 < 1048576 := by omega
    have hml := roK_len m nums h0 k
    have hpl := roK_place m nums most k
    have hlt : ((roK m nums most k).l.length : Int) < most := hc1.2
    refine X.skip ?_
    refine X.seq ?_
    refine X.block ?_
    refine X.seq ?_
    refine X.region ?_
    iterate 4 refine Ex.pu ?_
    refine Ex.ca (C_tactuskit_Mod x 1048576 hxr (by omega)) ?_
    refine Ex.pu ?_
    refine Ex.nil ?_
    refine X.seq ?_
    refine X.region ?_
    iterate 5 refine Ex.pu ?_
    refine Ex.nil ?_
    refine X.block ?_
    refine X.seq ?_
    refine X.region ?_
    iterate 4 refine Ex.pu ?_
    refine Ex.nil ?_
    refine X.cd rfl (fun hc2 => ?_) (fun hc2 => ?_)
    · have hst := (roK_s (m := m) hx hlt).trans (roS_rest hc2)
      refine X.region ?_
      iterate 5 refine Ex.pu ?_
      refine Ex.ca (C_tactuskit_Above m (2 + x % 1048576 / 8 % 6) (by omega) (by omega)) ?_
      refine Ex.co [(2000000, 13), (2000010, 40), (2000011, 41)] (C_tactuskit_maker_put m (roK m nums most k).l (roK m nums most k).p false (roK m nums most k).d (rsS (2 + x % 1048576 / 8 % 6)) (abvK m (2 + x % 1048576 / 8 % 6)) (by omega)) ?_
      refine Ex.nil ?_
      refine X.imp (st' := ⟨[(1, intsA nums), (2, iv most), (3, .ptr 3 0 0 0), (7, .ptr 13 0 0 0), (8, iv (k : Int))], [(3, .box (mnE m) 23), (13, .box [.str ⟨#[]⟩, .own 41, iv m.Max, iv m.Mod, iv m.Tem, iv m.Pro, iv (roK m nums most (k + 1)).p, .bool false, .bool (roK m nums most (k + 1)).d] 171), (41, .row sgE (roK m nums most (k + 1)).l 49 17)]⟩) (Imp.of (by repeat' (first | exact True.intro | (refine And.intro ⟨_, rfl, ?_⟩ ?_; exact LeV.refl _))) (by repeat' (first | exact True.intro | (refine And.intro ⟨_, rfl, ?_⟩ ?_; (first | exact LeB.refl _ | (refine LeB.eq ?_; rw [hst] <;> rfl)))))) ?_
      refine X.imp (Imp.mv 41 40 rfl rfl) ?_
      refine X.region ?_
      iterate 3 refine Ex.pu ?_
      refine Ex.nil ?_
      refine X.bk (k + 1) (hI := (Imp.of (by repeat' (first | exact True.intro | (refine And.intro ⟨_, rfl, ?_⟩ ?_; exact LeV.refl _))) (by repeat' (first | exact True.intro | (refine And.intro ⟨_, rfl, ?_⟩ ?_; (first | exact LeB.refl _ | (refine LeB.eq ?_; rw [hst] <;> rfl)))))))
    · refine X.seq ?_
      refine X.region ?_
      iterate 3 refine Ex.pu ?_
      refine ExF.at 3 ?_
      refine ExF.pu ?_
      refine ExF.gi ?_
      refine ExF.gi ?_ (hs := by intro hgd; exact P_nilCheck_ptr rfl)
      iterate 2 refine ExF.gi ?_
      refine ExF.done ?_
      iterate 2 refine Ex.pu ?_
      refine Ex.nil ?_
      refine X.cd rfl (fun hc3 => ?_) (fun hc3 => ?_)
      · have hst := (roK_s (m := m) hx hlt).trans (roS_dot hc2 hc3)
        refine X.region ?_
        iterate 2 refine Ex.pu ?_
        refine Ex.co [(2000000, 13), (2000010, 40), (2000011, 41)] (C_tactuskit_maker_put m (roK m nums most k).l (roK m nums most k).p false (roK m nums most k).d sgDot false (by omega)) ?_
        refine Ex.nil ?_
        refine X.imp (st' := ⟨[(1, intsA nums), (2, iv most), (3, .ptr 3 0 0 0), (7, .ptr 13 0 0 0), (8, iv (k : Int))], [(3, .box (mnE m) 23), (13, .box [.str ⟨#[]⟩, .own 41, iv m.Max, iv m.Mod, iv m.Tem, iv m.Pro, iv (roK m nums most (k + 1)).p, .bool false, .bool (roK m nums most (k + 1)).d] 171), (41, .row sgE (roK m nums most (k + 1)).l 49 17)]⟩) (Imp.of (by repeat' (first | exact True.intro | (refine And.intro ⟨_, rfl, ?_⟩ ?_; exact LeV.refl _))) (by repeat' (first | exact True.intro | (refine And.intro ⟨_, rfl, ?_⟩ ?_; (first | exact LeB.refl _ | (refine LeB.eq ?_; rw [hst] <;> rfl)))))) ?_
        refine X.imp (Imp.mv 41 40 rfl rfl) ?_
        refine X.region ?_
        iterate 3 refine Ex.pu ?_
        refine Ex.nil ?_
        refine X.bk (k + 1) (hI := (Imp.of (by repeat' (first | exact True.intro | (refine And.intro ⟨_, rfl, ?_⟩ ?_; exact LeV.refl _))) (by repeat' (first | exact True.intro | (refine And.intro ⟨_, rfl, ?_⟩ ?_; (first | exact LeB.refl _ | (refine LeB.eq ?_; rw [hst] <;> rfl)))))))
      · have hst := (roK_s (m := m) hx hlt).trans (roS_note hc2 (fun e => by rcases hc3 with h | h; (have := e.1; omega); (rw [h] at e; exact absurd e.2 (by decide))))
        refine X.region ?_
        iterate 4 refine Ex.pu ?_
        refine Ex.co [(2000000, 13), (2000010, 40), (2000011, 41)] (C_tactuskit_maker_note m (roK m nums most k).l (roK m nums most k).p (2 + x % 1048576 / 8 % 6) (x % 1048576 / 48) false (roK m nums most k).d hpl (by omega) (by omega)) ?_
        refine Ex.nil ?_
        refine X.imp (st' := ⟨[(1, intsA nums), (2, iv most), (3, .ptr 3 0 0 0), (7, .ptr 13 0 0 0), (8, iv (k : Int))], [(3, .box (mnE m) 23), (13, .box [.str ⟨#[]⟩, .own 41, iv m.Max, iv m.Mod, iv m.Tem, iv m.Pro, iv (roK m nums most (k + 1)).p, .bool false, .bool (roK m nums most (k + 1)).d] 171), (41, .row sgE (roK m nums most (k + 1)).l 49 17)]⟩) (Imp.of (by repeat' (first | exact True.intro | (refine And.intro ⟨_, rfl, ?_⟩ ?_; exact LeV.refl _))) (by repeat' (first | exact True.intro | (refine And.intro ⟨_, rfl, ?_⟩ ?_; (first | exact LeB.refl _ | (refine LeB.eq ?_; rw [hst] <;> rfl)))))) ?_
        refine X.imp (Imp.mv 41 40 rfl rfl) ?_
        refine X.region ?_
        iterate 3 refine Ex.pu ?_
        refine Ex.nil ?_
        refine X.bk (k + 1) (hI := (Imp.of (by repeat' (first | exact True.intro | (refine And.intro ⟨_, rfl, ?_⟩ ?_; exact LeV.refl _))) (by repeat' (first | exact True.intro | (refine And.intro ⟨_, rfl, ?_⟩ ?_; (first | exact LeB.refl _ | (refine LeB.eq ?_; rw [hst] <;> rfl)))))))
  · have hfin : (roK m nums most k).l = roL m nums most := roL_at (by omega) (by omega)
    refine X.exit ?_
    refine X.seq ?_
    refine X.region ?_
    refine Ex.pu ?_
    refine Ex.pu ?_ (hs := by exact P_nilCheck_ptr rfl)
    iterate 4 refine Ex.pu ?_
    refine Ex.nil ?_
    refine X.ret ?_
    refine RetQ.imp (Imp.freeze (k := 40) rfl) ?_
    refine RetQ.ret (.one (.tmp rfl (LeV.eq ?_)))
    all_goals (rw [← hfin]; rfl)
end Go.Rse
