/-
  The package-level variable that the rows list: what it holds when the call begins.
-/
import Derived.Test.YtkpbljifckjeoaaGreatDoorYRow4
import Derived.Test.YtkpbljifckjeoaaGreatDoorTie
import Derived.LaidHandle
import Derived.LaidLaws
import Derived.ChangeSame
import Derived.FnData
namespace Go.Proofs.YtkpbljifckjeoaaGreatDoor
open Go Go.Rse Go.RowKit Go.ChangeShapes Go.WideShapes Go.Proofs
abbrev laidL : List (String × DataW Unit) := [("tactus/item.half", Rows.laid_tactus_item_half)]
noncomputable def laidWorld (os : Os) : World :=
 let w0 := World.holding Tryz.prog os ⟨#[], #[], []⟩
 { w0 with heap := w0.heap.modify 0 fun
  | .cells _ t frozen => .cells #[.int .i64 3, .int .i64 2] t frozen
  | o => o }
set_option maxRecDepth 100000 in
theorem laidWorld_met (os : Os) (args : Array Value) : laidMetH Tryz.prog laidL ((laidWorld os).forCall (fun _ _ => 0) ⟨#[], args, []⟩).memory :=
 laidMetH_of_parts (laidMet_of_run' 8 (by kernel_rfl) (by kernel_rfl)) (by kernel_rfl)
theorem half_le {W : World} (h : laidMetH Tryz.prog laidL W) : Im.le gIm (wIm W) := by
 have h' : laidMet Tryz.prog laidL W := h;obtain ⟨ps, ⟨g, t, cs, fuel, p, q, hg, ht, hv, htr, -, -⟩, -, -⟩ := h';have eg : g = 0 := Option.some.inj (hg.symm.trans (show Tryz.prog.globalNamed "tactus/item.half" = some 0 by kernel_rfl));subst eg;have et : t = 25 := Option.some.inj (ht.symm.trans (show (Tryz.prog.globals[0]?).map (·.type) = some 25 by kernel_rfl));subst et;obtain ⟨y0, y1, n, hx, hl, h0, h1⟩ := trod_struct2 Tryz.underlying25 htr;obtain ⟨n0, e0, rfl, -⟩ := DataW.trod_int Tryz.underlying3 h0;obtain ⟨n1, e1, rfl, -⟩ := DataW.trod_int Tryz.underlying3 h1;have hc1 : Tryz.prog.cellsOf 3 = 1 := by kernel_rfl
 have hc2 : Tryz.prog.cellsOf 25 = 2 := by kernel_rfl
 rw [hc1] at e0 e1;rw [hc2] at hl;simp only [Rows.laid_tactus_item_half, Prod.mk.injEq, DataW.agg.injEq, List.cons.injEq, DataW.lit.injEq, Lit.int.injEq, true_and, and_true] at hx;obtain ⟨⟨hn0, hn1⟩, -⟩ := hx
 have k0 : cs[0]? = some (.int .i64 3) := by
  have : (cs.toList.drop 0).take 1 = [.int .i64 n0] := e0
  have hz : cs.toList[0]? = some (.int .i64 n0) := by
   have := congrArg (·[0]?) this;simpa using this
  rw [← hn0] at hz; simpa using hz
 have k1 : cs[1]? = some (.int .i64 2) := by
  have : (cs.toList.drop 1).take 1 = [.int .i64 n1] := e1
  have hz : cs.toList[1]? = some (.int .i64 n1) := by
   have := congrArg (·[0]?) this;simpa using this
  rw [← hn1] at hz; simpa using hz
 intro b o u hb;unfold gIm at hb;unfold zkc at hb;split at hb
 ·show W.cell? ⟨0, o, none⟩ = some u;rw [World.var?_cell hg hv o];rcases o with _ | _ | o
  ·simp at hb; rw [k0, hb]
  ·simp at hb; rw [k1, hb]
  ·simp at hb
 ·simp at hb
end Go.Proofs.YtkpbljifckjeoaaGreatDoor
