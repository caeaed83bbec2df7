/-
  The package-level variable that the rows list: what it holds when the call begins.
-/
import Derived.Test.YtbopkhoalndflaaGreatDoorYRow4
import Derived.Test.YtbopkhoalndflaaGreatDoorTie
import Derived.LaidHandle
import Derived.LaidLaws
import Derived.ChangeSame
import Derived.FnData
set_option linter.all false
namespace Go.Proofs.YtbopkhoalndflaaGreatDoor
open Go Go.Rse Go.RowKit Go.ChangeShapes Go.WideShapes Go.Proofs Go.Proofs.Tryz
abbrev laidL:List (String×DataW Unit):=[("tactus/item.half",Rows.laid_tactus_item_half)]
noncomputable def laidWorld(os:Os):World:=
 let w0:=World.holding prog os ⟨#[], #[],[]⟩
 {w0 with heap:=w0.heap.modify 0 λ
  |.cells _ t frozen=>.cells #[.int .i64 3,.int .i64 2] t frozen
  |o=>o}
set_option maxRecDepth 100000 in
theorem laidWorld_met(os:Os)(args:Array Value):laidMetH prog laidL ((laidWorld os).forCall (λ_ _=>0) ⟨#[],args,[]⟩).memory:=
 laidMetH_of_parts (laidMet_of_run' 8 (by kernel_rfl) (by kernel_rfl)) (by kernel_rfl)
theorem half_le{W:World}(h:laidMetH prog laidL W):Im.le gIm (wIm W):=by
 have H:laidMet prog laidL W:=h;obtain⟨ps,⟨g,t,cs,fuel,p,q,I,ht,hv,U,-,-⟩,-,-⟩:=H;have eg:g=0:=Option.some.inj (I.symm.trans (show prog.globalNamed "tactus/item.half" =some 0 by kernel_rfl));subst eg;have et:t=83:=Option.some.inj (ht.symm.trans (show(prog.globals[0]?).map (·.type)=some 83 by kernel_rfl));subst et;obtain⟨y0,y1,n,hx,hl,h0,G⟩:=trod_struct2 Tryz.underlying83 U;obtain⟨n0,e0,rfl,-⟩:=DataW.trod_int Tryz.underlying3 h0;obtain⟨n1,e1,rfl,-⟩:=DataW.trod_int Tryz.underlying3 G;have T:prog.cellsOf 3=1:=by kernel_rfl
 have Q:prog.cellsOf 83=2:=by kernel_rfl
 rw[T]at e0 e1;rw[Q]at hl;simp only[Rows.laid_tactus_item_half,Prod.mk.injEq,DataW.agg.injEq,List.cons.injEq,DataW.lit.injEq,Lit.int.injEq,true_and,and_true]at hx;obtain⟨⟨N,J⟩,-⟩:=hx
 have k0:cs[0]? =some (.int .i64 3):=by
  have:(cs.toList.drop 0).take 1=[.int .i64 n0]:=e0
  have V:cs.toList[0]? =some (.int .i64 n0):=by
   have:=congrArg (·[0]?) this;simpa using this
  rw[←N]at V;simpa using V
 have k1:cs[1]? =some (.int .i64 2):=by
  have:(cs.toList.drop 1).take 1=[.int .i64 n1]:=e1
  have V:cs.toList[1]? =some (.int .i64 n1):=by
   have:=congrArg (·[0]?) this;simpa using this
  rw[←J]at V;simpa using V
 intro b o u Z;unfold gIm at Z;unfold zmg at Z;split at Z
 ·show W.cell? ⟨0,o,none⟩=some u;rw[World.var?_cell I hv o];rcases o with _|_|o
  ·simp[GC.v]at Z;rw[k0,Z]
  ·simp[GC.v]at Z;rw[k1,Z]
  ·simp at Z
 ·simp at Z
end Go.Proofs.YtbopkhoalndflaaGreatDoor
