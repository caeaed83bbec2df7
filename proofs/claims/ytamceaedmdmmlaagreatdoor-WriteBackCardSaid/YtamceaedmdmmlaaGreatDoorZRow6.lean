/-
  The package-level variables that the rows list: what they hold when the call begins.
-/
import Derived.Test.YtamceaedmdmmlaaGreatDoorZRow4
import Derived.Test.YtamceaedmdmmlaaGreatDoorTie
import Derived.LaidHandle
import Derived.LaidLaws
import Derived.ChangeSame
import Derived.FnData
import Derived.OpenShut
set_option linter.all false
namespace Go.Rse
open Go Go.Proofs.Tryz
def litG:GC->DataW Unit
 |.n x=>.lit (.int .i64 x)
 |.b x=>.lit (.bool x)
def scR(P:Program)(t:TypeId):Bool:=P.cellsOf t==1&&match P.underlying t with
 |some .bool=>true
 |some (.int .i64)=>true
 |_=>false
def fsR(P:Program)(fs:Array Field):Bool:=(List.range fs.size).all λi=>match fs[i]? with
 |some f=>f.offset==i&&scR P f.type
 |none=>false
section
variable{P:Program}{w:World}{enc:TypeId×Value->Unit}{base:Nat}{sp:Nat->Bool}{hd:Bool}{fuel:Nat}{t:TypeId}{cs:List Value}{y:DataW Unit×List MemPlace}
theorem zsW(h:scR P t=true):P.cellsOf t=1/\(P.underlying t=some .bool\/P.underlying t=some (.int .i64)):=by
 unfold scR at h;rw[jA]at h;refine⟨by simpa using h.1,?_⟩;have:=h.2;split at this
 ·exact .inl ‹_›
 ·exact .inr ‹_›
 ·cases this
theorem znm{g:GC}(ht:scR P t=true)(h:DataW.trod enc P w base sp hd fuel t cs=some y)(Z:y.1=litG g):cs=[g.v]:=by
 rcases(zsW ht).2 with e|e
 ·obtain⟨b,rfl,rfl⟩:=DataW.trod_bool e h;cases g<;>simp[litG]at Z;subst Z;rfl
 ·obtain⟨n,rfl,rfl,-⟩:=DataW.trod_int e h;cases g<;>simp[litG]at Z;subst Z;rfl
theorem zw0{cs:List Value}{i:Nat}{v:Value}(h:(cs.drop i).take 1=[v]):cs[i]? =some v:=by
 have:=j9 (·[0]?) h;simpa using this
theorem zqr{L:List GC}{e:TypeId}(ht:P.underlying t=some (.array L.length e))(he:scR P e=true)(N:P.cellsOf t=L.length)(h:DataW.trod enc P w base sp hd fuel t cs=some y)(Z:y.1=.agg (L.map litG)):cs=L.map GC.v:=by
 obtain⟨xs,m,-,rfl,hl,V,hf⟩:=DataW.trod_array ht h;injection Z with Z;rw[(zsW he).1]at hf;refine uI λi=>?_
 by_cases hi:i<L.length
 ·have h1:=hf i hi;obtain⟨x,hx⟩:∃x,xs[i]? =some x:=⟨_,jB (by omega)⟩;obtain⟨g,U⟩:∃g,L[i]? =some g:=⟨_,jB hi⟩;have T:=j9 (·[i]?) Z;simp only[jN,hx,U,Option.map_some,xQ]at T;rw[hx,Nat.mul_one]at h1;rw[zw0 (znm he h1 T),jN,U];rfl
 ·rw[wF (by omega),wF (by rw[jS];omega)]
theorem zkY{L:List GC}{fs:Array Field}(ht:P.underlying t=some (.struct fs))(hn:fs.size=L.length)(he:fsR P fs=true)(H:P.cellsOf t=L.length)(h:DataW.trod enc P w base sp hd fuel t cs=some y)(U:y.1=.agg (L.map litG)):cs=L.map GC.v:=by
 obtain⟨xs,m,-,rfl,hl,T,hf⟩:=DataW.trod_struct ht h;injection U with U;refine uI λi=>?_
 by_cases hi:i<L.length
 ·obtain⟨f,Z⟩:∃f,fs[i]? =some f:=⟨_,w7 (by omega)⟩;have V:=jF.1 he i (uR.2 (by omega));simp only[Z,jA,beq_iff_eq]at V;have h1:=hf i f Z;rw[V.1,(zsW V.2).1]at h1;obtain⟨x,hx⟩:∃x,xs[i]? =some x:=⟨_,jB (by omega)⟩;obtain⟨g,N⟩:∃g,L[i]? =some g:=⟨_,jB hi⟩;have J:=j9 (·[i]?) U;simp only[jN,hx,N,Option.map_some,xQ]at J;rw[hx]at h1;rw[zw0 (znm V.2 h1 J),jN,N];rfl
 ·rw[wF (by omega),wF (by rw[jS];omega)]
theorem zpQ{k:Nat}:∀(B:List (List Value))(cs:List Value),cs.length=B.length*k->(∀b∈B,b.length=k)->(∀(i:Nat)b,B[i]? =some b->(cs.drop (i*k)).take k=b)->cs=B.flatten
 |[],cs,h,_,_=>by simp at h;subst h;rfl
 |b::r,cs,h,V,hi=>by
  rw[w8,Nat.add_mul,kF]at h;have h0:=hi 0 b rfl;rw[Nat.zero_mul,List.drop_zero]at h0
  have ih:=zpQ (k:=k) r (cs.drop k) (by rw[u7];omega) (λc Z=>V c (wE _ Z)) λi c Z=>by
   have:=hi (i+1) c (by simpa using Z);rw[xK,show k+i*k=(i+1)*k by rw[Nat.add_mul];omega];exact this
  rw[uQ,←ih,←h0,wB]
theorem zod{B:List (List GC)}{e k:Nat}{fs:Array Field}(ht:P.underlying t=some (.array B.length e))(H:P.underlying e=some (.struct fs))(hk:P.cellsOf e=k)(hn:fs.size=k)(he:fsR P fs=true)(T:∀b∈B,b.length=k)(G:P.cellsOf t=B.length*k)(h:DataW.trod enc P w base sp hd fuel t cs=some y)(V:y.1=.agg (B.map λb=>.agg (b.map litG))):cs=B.flatten.map GC.v:=by
 obtain⟨xs,m,-,rfl,hl,N,hf⟩:=DataW.trod_array ht h;injection V with V;rw[hk]at hf;rw[List.map_flatten];refine zpQ (k:=k) _ cs (by rw[jS];omega) (λb Z=>?_) λi b Z=>?_
 ·obtain⟨c,E,rfl⟩:=jW.1 Z;rw[jS];exact T c E
 ·rw[jN]at Z
  have hi:i<B.length:=by
   apply jV;intro hn;rw[wF (by omega)]at Z;cases Z
  obtain⟨g,U⟩:∃g,B[i]? =some g:=⟨_,jB hi⟩;obtain⟨x,hx⟩:∃x,xs[i]? =some x:=⟨_,jB (by omega)⟩;rw[U]at Z;injection Z with Z;subst Z;have J:=j9 (·[i]?) V;simp only[jN,hx,U,Option.map_some,xQ]at J;have h1:=hf i hi;rw[hx]at h1;have xT:=T g (j8 U);exact zkY H (by omega) he (by omega) h1 J
end
end Go.Rse
namespace Go.Proofs.YtamceaedmdmmlaaGreatDoor
open Go Go.Rse Go.RowKit Go.ChangeShapes Go.WideShapes Go.Proofs Go.Proofs.Tryz
abbrev laidL:List (String×DataW Unit):=[("tactus/item.half",Rows.laid_tactus_item_half),("tactus/sign.uses",Rows.laid_tactus_sign_uses),("tactus/sign.classes",Rows.laid_tactus_sign_classes)]
noncomputable def laidWorld(os:Os):World:=
 let w0:=World.holding prog os ⟨#[], #[],[]⟩
 let put(i:Nat)(vs:List Value)(h:Array Obj):Array Obj:=h.modify i λ
  |.cells _ t frozen=>.cells vs.toArray t frozen
  |o=>o
 {w0 with heap:=put 2 (clsL.map GC.v) (put 1 (zsl.map GC.v) (put 0 [.int .i64 3,.int .i64 2] w0.heap))}
set_option maxRecDepth 100000 in
theorem laidWorld_met(os:Os)(args:Array Value):laidMetH prog laidL ((laidWorld os).forCall (λ_ _=>0) ⟨#[],args,[]⟩).memory:=
 laidMetH_of_parts (laidMet_of_run' 8 (by kernel_rfl) (by kernel_rfl)) (by kernel_rfl)
theorem zoe{W:World}{n:String}{g:Nat}{cs:Array Value}{L:List GC}(Z:prog.globalNamed n=some g)(hv:W.var? prog n=some cs)(h:cs.toList=L.map GC.v){o:Nat}{u:Value}(V:(L[o]?.map GC.v)=some u):wIm W g o=some u:=by
 show W.cell? ⟨g,o,none⟩=some u;rw[World.var?_cell Z hv o,←Array.getElem?_toList,h,List.getElem?_map];exact V
def zCr:List (List GC):=(List.range 13).map λi=>(zsl.drop (i*12)).take 12
theorem half_le{W:World}(h:laidMetH prog laidL W):Im.le gIm (wIm W):=by
 have h':laidMet prog laidL W:=h;obtain⟨ps,⟨g,t,cs,fuel,p,q,hg,ht,hv,J,⟨g',t',cs',fuel',p',q',V,H,G,U,⟨g2,t2,cs2,fuel2,p2,q2,T,E,xT,N,-,-⟩,-⟩,-⟩,-,-⟩:=h';have eg:g=0:=Option.some.inj (hg.symm.trans (show prog.globalNamed "tactus/item.half" =some 0 by kernel_rfl));have eg':g'=1:=Option.some.inj (V.symm.trans (show prog.globalNamed "tactus/sign.uses" =some 1 by kernel_rfl));have eg2:g2=2:=Option.some.inj (T.symm.trans (show prog.globalNamed "tactus/sign.classes" =some 2 by kernel_rfl));subst eg eg' eg2;have et:t=61:=Option.some.inj (ht.symm.trans (show(prog.globals[0]?).map (·.type)=some 61 by kernel_rfl));have et':t'=290:=Option.some.inj (H.symm.trans (show(prog.globals[1]?).map (·.type)=some 290 by kernel_rfl));have et2:t2=296:=Option.some.inj (E.symm.trans (show(prog.globals[2]?).map (·.type)=some 296 by kernel_rfl));subst et et' et2;have c0:=zkY (L:=[.n 3,.n 2]) Tryz.underlying61 rfl (by kernel_rfl) (by kernel_rfl) J rfl;have c1:=zod (B:=zCr) (k:=12) Tryz.underlying290 Tryz.underlying289 (by kernel_rfl) rfl (by kernel_rfl) (by decide) (by kernel_rfl) U rfl;have c2:=zqr (L:=clsL) Tryz.underlying296 (by kernel_rfl) (by kernel_rfl) N rfl;have eB:zCr.flatten=zsl:=by decide
 rw[eB]at c1;intro b o u Z;unfold gIm at Z;unfold zm1 at Z;split at Z
 ·exact zoe hg hv c0 Z
 ·exact zoe T xT c2 Z
 ·exact zoe V G c1 Z
 ·simp at Z
end Go.Proofs.YtamceaedmdmmlaaGreatDoor
