/-
  The closed facts by instance: printed by program (genty.py).
-/
import Derived.Test.YtmbjfeaipblfcaaGreatDoorTTy
import Derived.Test.YtmbjfeaipblfcaaGreatDoorTLogC
namespace Go.Rse
open Go Go.Proofs
instance : TyK Tryz.prog 3 false 1 := ⟨ty3⟩
instance : TyK Tryz.prog 4 false 1 := ⟨ty4⟩
instance : TyK Tryz.prog 23 true 4 := ⟨ty23⟩
instance : TyK Tryz.prog 24 false 1 := ⟨ty24⟩
instance : TyK Tryz.prog 25 false 1 := ⟨ty25⟩
instance : TyK Tryz.prog 30 false 1 := ⟨ty30⟩
instance : TyK Tryz.prog 49 true 17 := ⟨ty49⟩
instance : TyK Tryz.prog 51 true 2 := ⟨ty51⟩
instance : TyK Tryz.prog 53 true 12 := ⟨ty53⟩
instance : TyK Tryz.prog 89 false 1 := ⟨ty89⟩
instance : TyK Tryz.prog 107 false 1 := ⟨ty107⟩
instance : TyK Tryz.prog 191 false 1 := ⟨ty191⟩
instance : TyK Tryz.prog 194 true 4 := ⟨ty194⟩
instance : TyK Tryz.prog 209 false 1 := ⟨ty209⟩
instance : ZeK Tryz.prog 3 (.int .i64 0) := ⟨ze3⟩
instance : ZcK Tryz.prog 3 [.int .i64 0] := ⟨zc3⟩
instance : ZcK Tryz.prog 4 [.bool false] := ⟨zc4⟩
instance : ZcK Tryz.prog 23 [.int .i64 0, .int .i64 0, .int .i64 0, .int .i64 0] := ⟨zc23⟩
instance : ZcK Tryz.prog 25 [.nils] := ⟨zc25⟩
instance : ZcK Tryz.prog 30 [.int .i64 0] := ⟨zc30⟩
instance : ZeK Tryz.prog 49 (.agg #[.int .i64 0, .int .i64 0, .int .i64 0, .int .i64 0, .bool false, .int .i64 0, .bool false, .bool false, .int .i64 0, .int .i64 0, .int .i64 0, .int .i64 0, .bool false, .int .i64 0, .int .i64 0, .int .i64 0, .int .i64 0]) := ⟨ze49⟩
instance : ZcK Tryz.prog 49 [.int .i64 0, .int .i64 0, .int .i64 0, .int .i64 0, .bool false, .int .i64 0, .bool false, .bool false, .int .i64 0, .int .i64 0, .int .i64 0, .int .i64 0, .bool false, .int .i64 0, .int .i64 0, .int .i64 0, .int .i64 0] := ⟨zc49⟩
instance : ZeK Tryz.prog 51 (.agg #[.int .i64 0, .int .i64 0]) := ⟨ze51⟩
instance : ZcK Tryz.prog 51 [.int .i64 0, .int .i64 0] := ⟨zc51⟩
instance : ZeK Tryz.prog 53 (.agg #[.int .i64 0, .int .i64 0, .bool false, .bool false, .bool false, .int .i64 0, .int .i64 0, .int .i64 0, .int .i64 0, .int .i64 0, .int .i64 0, .int .i64 0]) := ⟨ze53⟩
instance : ZcK Tryz.prog 53 [.int .i64 0, .int .i64 0, .bool false, .bool false, .bool false, .int .i64 0, .int .i64 0, .int .i64 0, .int .i64 0, .int .i64 0, .int .i64 0, .int .i64 0] := ⟨zc53⟩
instance : ZcK Tryz.prog 89 [.nils] := ⟨zc89⟩
instance : ZcK Tryz.prog 171 [.str ⟨#[]⟩, .nils, .int .i64 0, .int .i64 0, .int .i64 0, .int .i64 0, .int .i64 0, .bool false, .bool false] := ⟨zc171⟩
instance : ZcK Tryz.prog 194 [.int .i64 0, .int .i64 0, .int .i64 0, .int .i64 0] := ⟨zc194⟩
instance : ZcK Tryz.prog 209 [.nilf] := ⟨zc209⟩
instance : TiK Tryz.prog 3 (.int .i64 0) 1 8 := ⟨ti3⟩
instance : TiK Tryz.prog 25 (.slice none 0 0) 1 24 := ⟨ti25⟩
instance : TiK Tryz.prog 51 (.agg #[.int .i64 0, .int .i64 0]) 2 16 := ⟨ti51⟩
instance : TiK Tryz.prog 53 (.agg #[.int .i64 0, .int .i64 0, .bool false, .bool false, .bool false, .int .i64 0, .int .i64 0, .int .i64 0, .int .i64 0, .int .i64 0, .int .i64 0, .int .i64 0]) 12 80 := ⟨ti53⟩
instance : SlK Tryz.prog 24 49 := ⟨sl24⟩
instance : SlK Tryz.prog 25 3 := ⟨sl25⟩
instance : SlK Tryz.prog 29 53 := ⟨sl29⟩
instance : SlK Tryz.prog 70 51 := ⟨sl70⟩
instance : SlK Tryz.prog 89 4 := ⟨sl89⟩
instance : SlK Tryz.prog 107 25 := ⟨sl107⟩
instance : FoK Tryz.prog 23 0 0 := ⟨fo23_0⟩
instance : FoK Tryz.prog 23 1 1 := ⟨fo23_1⟩
instance : FoK Tryz.prog 23 2 2 := ⟨fo23_2⟩
instance : FoK Tryz.prog 23 3 3 := ⟨fo23_3⟩
instance : FoK Tryz.prog 49 0 0 := ⟨fo49_0⟩
instance : FoK Tryz.prog 49 1 1 := ⟨fo49_1⟩
instance : FoK Tryz.prog 49 4 4 := ⟨fo49_4⟩
instance : FoK Tryz.prog 51 0 0 := ⟨fo51_0⟩
instance : FoK Tryz.prog 51 1 1 := ⟨fo51_1⟩
instance : FoK Tryz.prog 53 0 0 := ⟨fo53_0⟩
instance : FoK Tryz.prog 53 1 1 := ⟨fo53_1⟩
instance : FoK Tryz.prog 53 2 2 := ⟨fo53_2⟩
instance : FoK Tryz.prog 53 3 3 := ⟨fo53_3⟩
instance : FoK Tryz.prog 53 4 4 := ⟨fo53_4⟩
instance : FoK Tryz.prog 53 5 5 := ⟨fo53_5⟩
instance : FoK Tryz.prog 53 6 6 := ⟨fo53_6⟩
instance : FoK Tryz.prog 53 7 8 := ⟨fo53_7⟩
instance : FoK Tryz.prog 53 8 10 := ⟨fo53_8⟩
instance : FoK Tryz.prog 169 1 1 := ⟨fo169_1⟩
instance : FoK Tryz.prog 171 0 0 := ⟨fo171_0⟩
instance : FoK Tryz.prog 171 2 6 := ⟨fo171_2⟩
instance : FoK Tryz.prog 171 4 8 := ⟨fo171_4⟩
instance : PlK Tryz.prog 23 [(0, 1), (1, 1), (2, 1), (3, 1)] := ⟨pl23, ia23⟩
instance : PlK Tryz.prog 49 [(0, 1), (1, 1), (2, 1), (3, 1), (4, 1), (5, 1), (6, 1), (7, 1), (8, 4), (12, 1), (13, 1), (14, 1), (15, 2)] := ⟨pl49, ia49⟩
instance : PlK Tryz.prog 51 [(0, 1), (1, 1)] := ⟨pl51, ia51⟩
instance : PlK Tryz.prog 53 [(0, 1), (1, 1), (2, 1), (3, 1), (4, 1), (5, 1), (6, 2), (8, 2), (10, 2)] := ⟨pl53, ia53⟩
instance : PlK Tryz.prog 171 [(0, 2), (2, 4), (6, 1), (7, 1), (8, 1)] := ⟨pl171, ia171⟩
instance : ArK Tryz.prog 194 4 3 := ⟨ar194⟩
instance : EqK Tryz.prog 51 [1, 1] := ⟨eq51, fl51, eg51⟩
instance : EqK Tryz.prog 53 [1, 1, 2, 2, 2, 1, 1, 1, 1, 1, 1, 1] := ⟨eq53, fl53, eg53⟩
end Go.Rse
