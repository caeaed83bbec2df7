/-
  Walks: all readings of a run.
-/
import Derived.Test.YtbilklnipfabpaaGreatDoorKJCho6
import Derived.Test.YtbilklnipfabpaaGreatDoorKJRul8
set_option linter.unusedSimpArgs false
set_option linter.unusedVariables false
namespace Go.Rse
open Go Go.Proofs
attribute [local irreducible] Pur yA yC Ex X Fn Imp LeV LeB FnO It yF FnW FnOW
theorem zkz (m : Mn) : ∀ (L : List Int) (l : List Par), (cmL m L l).2 = 0 \/ (cmL m L l).2 = 15
 | [], _ => .inl rfl
 | k :: r, l => by
  simp only [cmL]; split
  ·exact zkz m r _
  ·exact .inr rfl
theorem zov (m : Mn) (l : List Sg) (n : Int) : cmE m l n = 0 \/ cmE m l n = 15 := zkz _ _ _
theorem znS (m : Mn) (l : List Sg) (n : Nat) : aqN m l n ++ cmV m l (n : Int) = aqN m l (n + 1) := rfl
theorem zkA {m : Mn} {l : List Sg} (h : ictE m l = 0) : ckM m = 0 /\ ckD m l = 0 := ⟨(zdO (zfD h).1).1, (zfD h).1⟩
attribute [local irreducible] cmV cmE iofD iofM perfL ictE ictV aqN aqX aqE aqV
theorem zbR (m : Mn) (l : List Sg) (hl : l.length <= 1000) : Fn Tryz.prog 32 [mnA m, sgsA l] (.tup [iv (ictV m l), iv (ictE m l)]) := by
 refine Fn.go Tryz.func32 Tryz.ntmps32 (fun g w d => ?_);apply yb;refine yI ?_;iterate 2 refine ya ?_
 apply yj;iterate 2 refine ya ?_
 refine ym (zg8 m l hl) ?_;refine zad ?_;refine X.ret ?_;refine yx ?_ ?_;all_goals (first | rfl | (simp_all; done))
set_option maxHeartbeats 4000000 in
theorem zbL (m : Mn) (l : List Sg) (hl : l.length <= 1000) : Fn Tryz.prog 9 [mnA m, sgsA l] (.tup [zL (aqV m l), iv (aqE m l)]) := by
 have hz0 : [] = aqN m l 0 := by unfold aqN; rfl
 refine Fn.go Tryz.func9 Tryz.ntmps9 (fun g w d => ?_);apply yb;refine yI ?_;iterate 2 refine ya ?_
 apply yj;iterate 2 refine ya ?_
 refine ym (zbR m l hl) ?_;refine zh ?_;apply yd;apply yb;refine yh ?_;refine yl rfl ?_ ?_<;>intro hc1
 ·have hZ1 := zqH hc1;obtain ⟨hE, hV⟩ := hZ1;apply yb;refine yu ?_;refine X.ret ?_;refine RetQ.imp (yi (ts := [(4, zL []), (5, iv (ictE m l))]) (hs := [])) ?_;refine yx ?_ ?_;all_goals (first | (rw [hV]; done) | (rw [hE, h15]; done) | (rw [hE]; done) | exact congrArg (fun z => zL z) hV | exact congrArg (fun z => AV.int .i64 z) hE.symm)
 have h0 : ictE m l = 0 := by omega
 have hZ2 := zkA h0;obtain ⟨hM, hck⟩ := hZ2;have hrg := zjo hM h0;apply yf;apply yb;refine ye ?_;iterate 2 apply yd
 refine X.imp (zb rdgE 35 4 8 30 rfl rfl) ?_;apply yc;refine yh ?_;apply X.block
 refine zp (ι := Nat) (fun (k : Nat) => [(1, sgsA l), (2, .ptr 2 0 0 0), (8, .own 30), (21, iv (ictV m l)), (22, iv (k : Int))]) (fun (k : Nat) => [(2, .box (mnE m) 24), (30, .row rdgE (aqN m l k) 35 4)]) (fun (k : Nat) => k <= (ictV m l).toNat /\ aqX m l k = true) (fun (k : Nat) => (ictV m l).toNat - k) 0 (fun k hk => ?_) (hJ := by
  exact ⟨Nat.zero_le _, by unfold aqX; rfl⟩) (h0 := by
  exact yD)
 obtain ⟨hk1, hX⟩ := hk;apply yb;refine ye ?_;apply yd;refine yl rfl ?_ ?_<;>intro hc2
 ·have hkn : (k : Int) < ictV m l := by omega
  have hie := zlq h0 hkn;have hit := zlr hM hck hie;have hsn := znS m l k;have hln := zhk hX;have hcl := zky m hl (k : Int);apply yf;apply yd;apply X.block;apply yb;iterate 2 refine ya ?_
  apply yj;iterate 3 refine ya ?_
  refine ym (zcm m l (k : Int) hl hM hie hit) ?_;refine zh ?_;apply yd;apply yb;refine yh ?_;refine yl rfl ?_ ?_<;>intro hc3
  ·have hZ3 := znc h0 hkn (.inl hc3);obtain ⟨hE, hV⟩ := hZ3;have h15 := (zov m l (k : Int)).resolve_left hc3;apply yb;refine yu ?_;refine X.ret ?_;refine RetQ.imp (yi (ts := [(4, zL []), (5, iv (cmE m l (k : Int)))]) (hs := [])) ?_;refine yx ?_ ?_;all_goals (first | (rw [hV]; done) | (rw [hE, h15]; done) | (rw [hE]; done) | exact congrArg (fun z => zL z) hV | exact congrArg (fun z => AV.int .i64 z) hE.symm)
  have hc0 : cmE m l (k : Int) = 0 := by omega
  apply yf;apply yb;iterate 2 refine ya ?_
  refine Ex.mo ?_;refine ya ?_;apply yj;refine yu ?_;refine yl rfl ?_ ?_<;>intro hc4
  ·have hl4 : 4096 < (aqN m l (k + 1)).length := by rw [← hsn]; omega
   have hZ4 := znc h0 hkn (.inr hl4);obtain ⟨hE, hV⟩ := hZ4;apply yb;refine yh ?_;refine X.ret ?_;refine RetQ.imp (yi (ts := [(4, zL []), (5, iv 15)]) (hs := [])) ?_;refine yx ?_ ?_;all_goals (first | (rw [hV]; done) | (rw [hE, h15]; done) | (rw [hE]; done) | exact congrArg (fun z => zL z) hV | exact congrArg (fun z => AV.int .i64 z) hE.symm)
  have hl4 : (aqN m l (k + 1)).length <= 4096 := by rw [← hsn]; omega
  apply yf;apply yc;refine yh ?_
  refine y2 (k + 1) (hJ := by
   exact ⟨by omega, zqI hX hc0 hl4⟩) (hI := yD)
 ·obtain rfl : k = (ictV m l).toNat := by omega
  apply X.exit;apply yd;apply yb;refine yu ?_;refine yl rfl ?_ ?_<;>intro hc5
  ·have hZ5 := zqJ h0 rfl hX (by omega);obtain ⟨hE, hV⟩ := hZ5;apply yb;refine yh ?_;refine X.ret ?_;refine RetQ.imp (yi (ts := [(4, zL []), (5, iv 14)]) (hs := [])) ?_;refine yx ?_ ?_;all_goals (first | (rw [hV]; done) | (rw [hE, h15]; done) | (rw [hE]; done) | exact congrArg (fun z => zL z) hV | exact congrArg (fun z => AV.int .i64 z) hE.symm)
  have hZ6 := zqK h0 rfl hX (by omega);obtain ⟨hE, hV⟩ := hZ6;apply yf;apply yb;refine yu ?_;refine X.ret ?_;refine RetQ.imp (Imp.freeze (k := 30) rfl) ?_;refine yx ?_ ?_;all_goals (first | (rw [hV]; done) | (rw [hE, h15]; done) | (rw [hE]; done) | exact congrArg (fun z => zL z) hV | exact congrArg (fun z => AV.int .i64 z) hE.symm)
theorem za4 (m : Mn) (l : List Sg) (hl : l.length <= 1000) : Fn Tryz.prog 26 [mnA m, sgsA l] (.tup [iv ((aqV m l).length : Int), iv (aqE m l)]) := by
 have hln := ze6 m l;refine Fn.go Tryz.func26 Tryz.ntmps26 (fun g w d => ?_);apply yb;refine yI ?_;iterate 2 refine ya ?_
 apply yj;iterate 2 refine ya ?_
 refine ym (zbL m l hl) ?_;iterate 5 refine ya ?_
 apply yj;refine zh ?_;refine X.ret ?_;refine yx ?_ ?_;all_goals (first | rfl | (simp_all; done))
end Go.Rse
namespace Go.Rse
open Go Go.Proofs
section
variable {m : Mn} {k : Int} {I : List Ite} {l : List Par}
end
section
variable {m : Mn} {l : List Sg}
end
def isG (m : Mn) : List Int -> List Ite -> List Int -> Option (List Ite × List Int)
 | [], I, C => some (I, C)
 | k :: r, I, C => if segE m k I = 0 /\ (segV m k I).length <= C.length /\ apE m k I (C.take (segV m k I).length) = 0 then isG m r (apV m k I (C.take (segV m k I).length)) (C.drop (segV m k I).length) else none
def isqB (m : Mn) (l : List Sg) (r : Rdg) : Bool := decide (itmE m l r.Dots r.Minor = 0) && (match isG m (perfL m) (itmV m l r.Dots r.Minor) r.Choices with
 | some (J, D) => decide (D = []) && decide (J.map (·.Dur) = r.Durs)
 | none => false)
end Go.Rse
