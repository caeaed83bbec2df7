/-
  The package-level variables that the rows list: what they hold when the call begins.
-/
import Derived.Test.YtpapdhoblekoeaaGreatDoorZRow4
import Derived.Test.YtpapdhoblekoeaaGreatDoorTie
import Derived.LaidHandle
import Derived.LaidLaws
import Derived.ChangeSame
import Derived.FnData
import Derived.OpenShut
set_option linter.all false
namespace Go.Rse
open Go Go.Proofs.Tryz
def litG:GC->DataW Unit
 |.n x=>.lit (.int .i64 x)
 |.b x=>.lit (.bool x)
def scR(P:Program)(t:TypeId):Bool:=P.cellsOf t==1&&match P.underlying t with
 |some .bool=>true
 |some (.int .i64)=>true
 |_=>false
def fsR(P:Program)(fs:Array Field):Bool:=(List.range fs.size).all λi=>match fs[i]? with
 |some f=>f.offset==i&&scR P f.type
 |none=>false
section
variable{P:Program}{w:World}{enc:TypeId×Value->Unit}{base:Nat}{sp:Nat->Bool}{hd:Bool}{fuel:Nat}{t:TypeId}{cs:List Value}{y:DataW Unit×List MemPlace}
theorem ztl(h:scR P t=true):P.cellsOf t=1/\(P.underlying t=some .bool\/P.underlying t=some (.int .i64)):=by
 unfold scR at h;rw[jE]at h;refine⟨by simpa using h.1,?_⟩;have:=h.2;split at this
 ·exact .inl ‹_›
 ·exact .inr ‹_›
 ·cases this
theorem znl{g:GC}(ht:scR P t=true)(h:DataW.trod enc P w base sp hd fuel t cs=some y)(Q:y.1=litG g):cs=[g.v]:=by
 rcases(ztl ht).2 with e|e
 ·obtain⟨b,rfl,rfl⟩:=DataW.trod_bool e h;cases g<;>simp[litG]at Q;subst Q;rfl
 ·obtain⟨n,rfl,rfl,-⟩:=DataW.trod_int e h;cases g<;>simp[litG]at Q;subst Q;rfl
theorem zxU{cs:List Value}{i:Nat}{v:Value}(h:(cs.drop i).take 1=[v]):cs[i]? =some v:=by
 have:=jA (·[0]?) h;simpa using this
theorem zhq{L:List GC}{e:TypeId}(ht:P.underlying t=some (.array L.length e))(he:scR P e=true)(G:P.cellsOf t=L.length)(h:DataW.trod enc P w base sp hd fuel t cs=some y)(Q:y.1=.agg (L.map litG)):cs=L.map GC.v:=by
 obtain⟨xs,m,-,rfl,hl,N,hf⟩:=DataW.trod_array ht h;injection Q with Q;rw[(ztl he).1]at hf;refine wN λi=>?_
 by_cases hi:i<L.length
 ·have h1:=hf i hi;obtain⟨x,hx⟩:∃x,xs[i]? =some x:=⟨_,jC aa⟩;obtain⟨g,K⟩:∃g,L[i]? =some g:=⟨_,jC hi⟩;have H:=jA (·[i]?) Q;simp only[j9,hx,K,wS,xE]at H;rw[hx,Nat.mul_one]at h1;rw[zxU (znl he h1 H),j9,K];rfl
 ·rw[wO aa,wO (by rw[jD];omega)]
theorem zkP{L:List GC}{fs:Array Field}(ht:P.underlying t=some (.struct fs))(hn:fs.size=L.length)(he:fsR P fs=true)(xT:P.cellsOf t=L.length)(h:DataW.trod enc P w base sp hd fuel t cs=some y)(K:y.1=.agg (L.map litG)):cs=L.map GC.v:=by
 obtain⟨xs,m,-,rfl,hl,H,hf⟩:=DataW.trod_struct ht h;injection K with K;refine wN λi=>?_
 by_cases hi:i<L.length
 ·obtain⟨f,Q⟩:∃f,fs[i]? =some f:=⟨_,jZ aa⟩;have N:=jF.1 he i (uV.2 aa);simp only[Q,jE,beq_iff_eq]at N;have h1:=hf i f Q;rw[N.1,(ztl N.2).1]at h1;obtain⟨x,hx⟩:∃x,xs[i]? =some x:=⟨_,jC aa⟩;obtain⟨g,G⟩:∃g,L[i]? =some g:=⟨_,jC hi⟩;have E:=jA (·[i]?) K;simp only[j9,hx,G,wS,xE]at E;rw[hx]at h1;rw[zxU (znl N.2 h1 E),j9,G];rfl
 ·rw[wO aa,wO (by rw[jD];omega)]
theorem zpW{k:Nat}:∀(B:List (List Value))(cs:List Value),cs.length=B.length*k->(∀b∈B,b.length=k)->(∀(i:Nat)b,B[i]? =some b->(cs.drop (i*k)).take k=b)->cs=B.flatten
 |[],cs,h,_,_=>by simp at h;subst h;rfl
 |b::r,cs,h,N,hi=>by
  rw[w5,Nat.add_mul,vX]at h;have h0:=hi 0 b rfl;rw[xM,List.drop_zero]at h0
  have ih:=zpW (k:=k) r (cs.drop k) (by rw[vC];omega) (λc Q=>N c (wA _ Q)) λi c Q=>by
   have:=hi (i+1) c (ao Q);rw[kA,show k+i*k=(i+1)*k by rw[Nat.add_mul];omega];exact this
  rw[kB,←ih,←h0,wV]
theorem zjL{B:List (List GC)}{e k:Nat}(ht:P.underlying t=some (.array B.length e))(hk:P.cellsOf e=k)(E:∀b∈B,b.length=k)(xT:P.cellsOf t=B.length*k)(hs:∀b∈B,∀(sp:Nat->Bool)(fuel:Nat)(cs:List Value)(y:DataW Unit×List MemPlace),DataW.trod enc P w base sp hd fuel e cs=some y->y.1=.agg (b.map litG)->cs=b.map GC.v)(h:DataW.trod enc P w base sp hd fuel t cs=some y)(N:y.1=.agg (B.map λb=>.agg (b.map litG))):cs=B.flatten.map GC.v:=by
 obtain⟨xs,m,-,rfl,hl,H,hf⟩:=DataW.trod_array ht h;injection N with N;rw[hk]at hf;rw[List.map_flatten];refine zpW (k:=k) _ cs (by rw[jD];omega) (λb Q=>?_) λi b Q=>?_
 ·obtain⟨c,hc,rfl⟩:=jS.1 Q;rw[jD];exact E c hc
 ·rw[j9]at Q
  have hi:i<B.length:=by
   apply jY;intro hn;rw[wO aa]at Q;cases Q
  obtain⟨g,K⟩:∃g,B[i]? =some g:=⟨_,jC hi⟩;obtain⟨x,hx⟩:∃x,xs[i]? =some x:=⟨_,jC aa⟩;rw[K]at Q;injection Q with Q;subst Q;have G:=jA (·[i]?) N;simp only[j9,hx,K,wS,xE]at G;have h1:=hf i hi;rw[hx]at h1;exact hs g (j6 K) _ _ _ _ h1 G
end
end Go.Rse
namespace Go.Proofs.YtpapdhoblekoeaaGreatDoor
open Go Go.Rse Go.RowKit Go.ChangeShapes Go.WideShapes Go.Proofs Go.Proofs.Tryz
abbrev laidL:List (String×DataW Unit):=[("tactus/item.half",Rows.laid_tactus_item_half),("tactus/pitch.halves",Rows.laid_tactus_pitch_halves),("tactus/interval.kinds",Rows.laid_tactus_interval_kinds),("tactus/sign.uses",Rows.laid_tactus_sign_uses),("tactus/sign.classes",Rows.laid_tactus_sign_classes)]
noncomputable def laidWorld(os:Os):World:=
 let w0:=World.holding prog os ⟨#[], #[],[]⟩
 let put(i:Nat)(L:List GC)(h:Array Obj):Array Obj:=h.modify i λ
  |.cells _ t frozen=>.cells (L.map GC.v).toArray t frozen
  |o=>o
 {w0 with heap:=put 2 clsL (put 1 usesL (put 4 kndL (put 3 hlvL (put 0 [.n 3,.n 2] w0.heap))))}
set_option maxRecDepth 100000 in
theorem laidWorld_met(os:Os)(args:Array Value):laidMetH prog laidL ((laidWorld os).forCall (λ_ _=>0) ⟨#[],args,[]⟩).memory:=
 laidMetH_of_parts (laidMet_of_run' 8 ae ae) ae
theorem zjM{W:World}{n:String}{g:Nat}{cs:Array Value}{L:List GC}(Q:prog.globalNamed n=some g)(N:W.var? prog n=some cs)(h:cs.toList=L.map GC.v){o:Nat}{u:Value}(K:(L[o]?.map GC.v)=some u):wIm W g o=some u:=by
 show W.cell? ⟨g,o,none⟩=some u;rw[World.var?_cell Q N o,←Array.getElem?_toList,h,List.getElem?_map];exact K
def cutB(k n:Nat)(L:List GC):List (List GC):=(List.range n).map λi=>(L.drop (i*k)).take k
theorem half_le{W:World}(h:laidMetH prog laidL W):Im.le gIm (wIm W):=by
 have h':laidMet prog laidL W:=h;obtain⟨ps,⟨g,t,cs,fuel,p,q,hg,ht,hv,x0,⟨g3,t3,cs3,fuel3,p3,q3,N,w2,v9,K,⟨g4,t4,cs4,fuel4,p4,q4,H,v8,v5,G,⟨g',t',cs',fuel',p',q',E,v4,v3,xT,⟨g2,t2,cs2,fuel2,p2,q2,x2,v2,v1,x1,-,-⟩,-⟩,-⟩,-⟩,-⟩,-,-⟩:=h';have eg:g=0:=Option.some.inj (hg.symm.trans (show prog.globalNamed "tactus/item.half" =some 0 by kernel_rfl));have eg':g'=1:=Option.some.inj (E.symm.trans (show prog.globalNamed "tactus/sign.uses" =some 1 by kernel_rfl));have eg2:g2=2:=Option.some.inj (x2.symm.trans (show prog.globalNamed "tactus/sign.classes" =some 2 by kernel_rfl));have eg3:g3=3:=Option.some.inj (N.symm.trans (show prog.globalNamed "tactus/pitch.halves" =some 3 by kernel_rfl));have eg4:g4=4:=Option.some.inj (H.symm.trans (show prog.globalNamed "tactus/interval.kinds" =some 4 by kernel_rfl));subst eg eg' eg2 eg3 eg4;have et:t=35:=Option.some.inj (ht.symm.trans (show(prog.globals[0]?).map (·.type)=some 35 by kernel_rfl));have et':t'=345:=Option.some.inj (v4.symm.trans (show(prog.globals[1]?).map (·.type)=some 345 by kernel_rfl));have et2:t2=368:=Option.some.inj (v2.symm.trans (show(prog.globals[2]?).map (·.type)=some 368 by kernel_rfl));have et3:t3=523:=Option.some.inj (w2.symm.trans (show(prog.globals[3]?).map (·.type)=some 523 by kernel_rfl));have et4:t4=524:=Option.some.inj (v8.symm.trans (show(prog.globals[4]?).map (·.type)=some 524 by kernel_rfl));subst et et' et2 et3 et4;have c0:=zkP (L:=[.n 3,.n 2]) Tryz.underlying35 rfl ae ae x0 rfl;have hB:∀b∈cutB 12 13 usesL,b.length=12:=by decide+kernel
 have hC:∀b∈cutB 13 7 kndL,b.length=13:=ac
 have c1:=zjL (B:=cutB 12 13 usesL) (k:=12) Tryz.underlying345 ae hB ae (λb Q _ _ _ _ h1 h2=>zkP Tryz.underlying344 (by rw[hB b Q];rfl) ae (by rw[hB b Q];kernel_rfl) h1 h2) xT rfl;have c2:=zhq (L:=clsL) Tryz.underlying368 ae ae x1 rfl;have c3:=zhq (L:=hlvL) Tryz.underlying523 ae ae K rfl;have c4:=zjL (B:=cutB 13 7 kndL) (k:=13) Tryz.underlying524 ae hC ae (λb Q _ _ _ _ h1 h2=>zhq (by rw[hC b Q];exact Tryz.underlying368) ae (by rw[hC b Q];kernel_rfl) h1 h2) G rfl;have eB:(cutB 12 13 usesL).flatten=usesL:=by decide+kernel
 have eC:(cutB 13 7 kndL).flatten=kndL:=by decide+kernel
 rw[eB]at c1;rw[eC]at c4;intro b o u Q;unfold gIm at Q;unfold zmW at Q;split at Q
 ·exact zjM hg hv c0 Q
 ·exact zjM x2 v1 c2 Q
 ·exact zjM E v3 c1 Q
 ·exact zjM N v9 c3 Q
 ·exact zjM H v5 c4 Q
 ·simp at Q
end Go.Proofs.YtpapdhoblekoeaaGreatDoor
