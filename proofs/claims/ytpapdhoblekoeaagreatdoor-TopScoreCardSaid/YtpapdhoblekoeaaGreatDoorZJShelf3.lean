/-
  DERIVED.
-/
import Derived.Shelf.SlSortCmp.WholeK
import Derived.Ground.SlsfProg
import Derived.Test.YtpapdhoblekoeaaGreatDoorZJSun2
import Derived.Lib.AppendZerosOnto
import Derived.Lib.Overlaps
import Derived.Laws.Externs
set_option linter.all false
set_option maxHeartbeats 8000000
namespace Go.Proofs
open Go.Shelf Go.Proofs.Tryz
def zgz:Go.Shelf.Ren:=⟨λ|6=>44|15=>89|14=>88|28=>135|29=>136|20=>127|21=>128|22=>129|23=>130|24=>131|25=>132|26=>133|27=>134|46=>166|47=>167|48=>168|49=>169|50=>170|57=>206|n=>n,λ|22=>139|24=>143|25=>145|3=>3|39=>192|0=>0|53=>255|55=>258|4=>4|46=>267|45=>266|50=>271|5=>5|9=>9|66=>324|70=>328|76=>372|77=>277|n=>n,λ|n=>n⟩
def zj3:Go.Proofs.SlLaysF0.n6 prog zgz:={
 mixed:=ae
 f6:=⟨f44.name,ac,func44.trans (congrArg some ae)⟩
 f14:=⟨f88.name,ac,func88.trans (congrArg some ae)⟩
 f15:=func89.trans (congrArg some ae)
 f20:=⟨f127.name,ac,func127.trans (congrArg some ae)⟩
 f21:=⟨f128.name,ac,func128.trans (congrArg some ae)⟩
 f22:=⟨f129.name,ac,func129.trans (congrArg some ae)⟩
 f23:=⟨f130.name,ac,func130.trans (congrArg some ae)⟩
 f24:=⟨f131.name,ac,func131.trans (congrArg some ae)⟩
 f25:=⟨f132.name,ac,func132.trans (congrArg some ae)⟩
 f26:=⟨f133.name,ac,func133.trans (congrArg some ae)⟩
 f27:=⟨f134.name,ac,func134.trans (congrArg some ae)⟩
 f28:=func135.trans (congrArg some ae)
 f29:=func136.trans (congrArg some ae)
 f46:=⟨f166.name,ac,func166.trans (congrArg some ae)⟩
 f47:=func167.trans (congrArg some ae)
 f48:=func168.trans (congrArg some ae)
 f49:=⟨f169.name,ac,func169.trans (congrArg some ae)⟩
 f50:=⟨f170.name,ac,func170.trans (congrArg some ae)⟩
 f57:=⟨f206.name,ac,func206.trans (congrArg some ae)⟩
 t0:=Tryz.underlying0
 a0:=Tryz.isAgg0
 z0:=Tryz.sizeOf0
 v0:=Tryz.zeroValue0
 t3:=Tryz.underlying3
 a3:=Tryz.isAgg3
 z3:=Tryz.sizeOf3
 v3:=Tryz.zeroValue3
 t4:=Tryz.underlying4
 a4:=Tryz.isAgg4
 z4:=Tryz.sizeOf4
 v4:=Tryz.zeroValue4
 t5:=Tryz.underlying5
 a5:=Tryz.isAgg5
 z5:=Tryz.sizeOf5
 v5:=Tryz.zeroValue5
 t9:=Tryz.underlying9
 a9:=Tryz.isAgg9
 z9:=Tryz.sizeOf9
 v9:=Tryz.zeroValue9
 t22:=Tryz.underlying139
 a22:=Tryz.isAgg139
 z22:=Tryz.sizeOf139
 v22:=Tryz.zeroValue139
 t25:=Tryz.underlying145
 a25:=Tryz.isAgg145
 z25:=Tryz.sizeOf145
 v25:=Tryz.zeroValue145
 t39:=Tryz.underlying192
 a39:=Tryz.isAgg192
 z39:=Tryz.sizeOf192
 v39:=Tryz.zeroValue192
 t45:=Tryz.underlying266
 a45:=Tryz.isAgg266
 z45:=Tryz.sizeOf266
 v45:=Tryz.zeroValue266
 t46:=Tryz.underlying267
 a46:=Tryz.isAgg267
 z46:=Tryz.sizeOf267
 v46:=Tryz.zeroValue267
 t50:=Tryz.underlying271
 a50:=Tryz.isAgg271
 z50:=Tryz.sizeOf271
 v50:=Tryz.zeroValue271
 t53:=Tryz.underlying255
 a53:=Tryz.isAgg255
 z53:=Tryz.sizeOf255
 v53:=Tryz.zeroValue255
 t55:=Tryz.underlying258
 a55:=Tryz.isAgg258
 z55:=Tryz.sizeOf258
 v55:=Tryz.zeroValue258
 t66:=Tryz.underlying324
 a66:=Tryz.isAgg324
 z66:=Tryz.sizeOf324
 v66:=Tryz.zeroValue324
 t70:=Tryz.underlying328
 a70:=Tryz.isAgg328
 z70:=Tryz.sizeOf328
 v70:=Tryz.zeroValue328
 t76:=Tryz.underlying372
 a76:=Tryz.isAgg372
 z76:=Tryz.sizeOf372
 v76:=Tryz.zeroValue372
 t77:=Tryz.underlying277
 a77:=Tryz.isAgg277
 z77:=Tryz.sizeOf277
 v77:=Tryz.zeroValue277}
def zfD:Go.Shelf.Ren:=⟨λ|6=>213|15=>89|14=>254|28=>135|29=>136|20=>290|21=>291|22=>292|23=>293|24=>294|25=>295|26=>296|27=>297|46=>340|47=>167|48=>168|49=>341|50=>342|57=>363|n=>n,λ|22=>219|24=>223|25=>339|3=>3|39=>192|0=>0|53=>255|55=>258|4=>4|46=>267|45=>266|50=>271|5=>5|9=>9|66=>324|70=>328|76=>372|77=>277|n=>n,λ|n=>n⟩
def zjc:Go.Proofs.SlLaysF0.n6 prog zfD:={
 mixed:=ae
 f6:=⟨f213.name,ac,func213.trans (congrArg some ae)⟩
 f14:=⟨f254.name,ac,func254.trans (congrArg some ae)⟩
 f15:=func89.trans (congrArg some ae)
 f20:=⟨f290.name,ac,func290.trans (congrArg some ae)⟩
 f21:=⟨f291.name,ac,func291.trans (congrArg some ae)⟩
 f22:=⟨f292.name,ac,func292.trans (congrArg some ae)⟩
 f23:=⟨f293.name,ac,func293.trans (congrArg some ae)⟩
 f24:=⟨f294.name,ac,func294.trans (congrArg some ae)⟩
 f25:=⟨f295.name,ac,func295.trans (congrArg some ae)⟩
 f26:=⟨f296.name,ac,func296.trans (congrArg some ae)⟩
 f27:=⟨f297.name,ac,func297.trans (congrArg some ae)⟩
 f28:=func135.trans (congrArg some ae)
 f29:=func136.trans (congrArg some ae)
 f46:=⟨f340.name,ac,func340.trans (congrArg some ae)⟩
 f47:=func167.trans (congrArg some ae)
 f48:=func168.trans (congrArg some ae)
 f49:=⟨f341.name,ac,func341.trans (congrArg some ae)⟩
 f50:=⟨f342.name,ac,func342.trans (congrArg some ae)⟩
 f57:=⟨f363.name,ac,func363.trans (congrArg some ae)⟩
 t0:=Tryz.underlying0
 a0:=Tryz.isAgg0
 z0:=Tryz.sizeOf0
 v0:=Tryz.zeroValue0
 t3:=Tryz.underlying3
 a3:=Tryz.isAgg3
 z3:=Tryz.sizeOf3
 v3:=Tryz.zeroValue3
 t4:=Tryz.underlying4
 a4:=Tryz.isAgg4
 z4:=Tryz.sizeOf4
 v4:=Tryz.zeroValue4
 t5:=Tryz.underlying5
 a5:=Tryz.isAgg5
 z5:=Tryz.sizeOf5
 v5:=Tryz.zeroValue5
 t9:=Tryz.underlying9
 a9:=Tryz.isAgg9
 z9:=Tryz.sizeOf9
 v9:=Tryz.zeroValue9
 t22:=Tryz.underlying219
 a22:=Tryz.isAgg219
 z22:=Tryz.sizeOf219
 v22:=Tryz.zeroValue219
 t25:=Tryz.underlying339
 a25:=Tryz.isAgg339
 z25:=Tryz.sizeOf339
 v25:=Tryz.zeroValue339
 t39:=Tryz.underlying192
 a39:=Tryz.isAgg192
 z39:=Tryz.sizeOf192
 v39:=Tryz.zeroValue192
 t45:=Tryz.underlying266
 a45:=Tryz.isAgg266
 z45:=Tryz.sizeOf266
 v45:=Tryz.zeroValue266
 t46:=Tryz.underlying267
 a46:=Tryz.isAgg267
 z46:=Tryz.sizeOf267
 v46:=Tryz.zeroValue267
 t50:=Tryz.underlying271
 a50:=Tryz.isAgg271
 z50:=Tryz.sizeOf271
 v50:=Tryz.zeroValue271
 t53:=Tryz.underlying255
 a53:=Tryz.isAgg255
 z53:=Tryz.sizeOf255
 v53:=Tryz.zeroValue255
 t55:=Tryz.underlying258
 a55:=Tryz.isAgg258
 z55:=Tryz.sizeOf258
 v55:=Tryz.zeroValue258
 t66:=Tryz.underlying324
 a66:=Tryz.isAgg324
 z66:=Tryz.sizeOf324
 v66:=Tryz.zeroValue324
 t70:=Tryz.underlying328
 a70:=Tryz.isAgg328
 z70:=Tryz.sizeOf328
 v70:=Tryz.zeroValue328
 t76:=Tryz.underlying372
 a76:=Tryz.isAgg372
 z76:=Tryz.sizeOf372
 v76:=Tryz.zeroValue372
 t77:=Tryz.underlying277
 a77:=Tryz.isAgg277
 z77:=Tryz.sizeOf277
 v77:=Tryz.zeroValue277}
def zhd:Go.Shelf.Ren:=⟨λ|6=>283|15=>89|14=>338|28=>135|29=>136|20=>353|21=>354|22=>355|23=>356|24=>357|25=>358|26=>359|27=>360|46=>366|47=>167|48=>168|49=>367|50=>368|57=>371|n=>n,λ|22=>423|24=>427|25=>475|3=>3|39=>192|0=>0|53=>255|55=>258|4=>4|46=>267|45=>266|50=>271|5=>5|9=>9|66=>324|70=>328|76=>372|77=>277|n=>n,λ|n=>n⟩
def zlT:Go.Proofs.SlLaysF0.n6 prog zhd:={
 mixed:=ae
 f6:=⟨f283.name,ac,func283.trans (congrArg some ae)⟩
 f14:=⟨f338.name,ac,func338.trans (congrArg some ae)⟩
 f15:=func89.trans (congrArg some ae)
 f20:=⟨f353.name,ac,func353.trans (congrArg some ae)⟩
 f21:=⟨f354.name,ac,func354.trans (congrArg some ae)⟩
 f22:=⟨f355.name,ac,func355.trans (congrArg some ae)⟩
 f23:=⟨f356.name,ac,func356.trans (congrArg some ae)⟩
 f24:=⟨f357.name,ac,func357.trans (congrArg some ae)⟩
 f25:=⟨f358.name,ac,func358.trans (congrArg some ae)⟩
 f26:=⟨f359.name,ac,func359.trans (congrArg some ae)⟩
 f27:=⟨f360.name,ac,func360.trans (congrArg some ae)⟩
 f28:=func135.trans (congrArg some ae)
 f29:=func136.trans (congrArg some ae)
 f46:=⟨f366.name,ac,func366.trans (congrArg some ae)⟩
 f47:=func167.trans (congrArg some ae)
 f48:=func168.trans (congrArg some ae)
 f49:=⟨f367.name,ac,func367.trans (congrArg some ae)⟩
 f50:=⟨f368.name,ac,func368.trans (congrArg some ae)⟩
 f57:=⟨f371.name,ac,func371.trans (congrArg some ae)⟩
 t0:=Tryz.underlying0
 a0:=Tryz.isAgg0
 z0:=Tryz.sizeOf0
 v0:=Tryz.zeroValue0
 t3:=Tryz.underlying3
 a3:=Tryz.isAgg3
 z3:=Tryz.sizeOf3
 v3:=Tryz.zeroValue3
 t4:=Tryz.underlying4
 a4:=Tryz.isAgg4
 z4:=Tryz.sizeOf4
 v4:=Tryz.zeroValue4
 t5:=Tryz.underlying5
 a5:=Tryz.isAgg5
 z5:=Tryz.sizeOf5
 v5:=Tryz.zeroValue5
 t9:=Tryz.underlying9
 a9:=Tryz.isAgg9
 z9:=Tryz.sizeOf9
 v9:=Tryz.zeroValue9
 t22:=Tryz.underlying423
 a22:=Tryz.isAgg423
 z22:=Tryz.sizeOf423
 v22:=Tryz.zeroValue423
 t25:=Tryz.underlying475
 a25:=Tryz.isAgg475
 z25:=Tryz.sizeOf475
 v25:=Tryz.zeroValue475
 t39:=Tryz.underlying192
 a39:=Tryz.isAgg192
 z39:=Tryz.sizeOf192
 v39:=Tryz.zeroValue192
 t45:=Tryz.underlying266
 a45:=Tryz.isAgg266
 z45:=Tryz.sizeOf266
 v45:=Tryz.zeroValue266
 t46:=Tryz.underlying267
 a46:=Tryz.isAgg267
 z46:=Tryz.sizeOf267
 v46:=Tryz.zeroValue267
 t50:=Tryz.underlying271
 a50:=Tryz.isAgg271
 z50:=Tryz.sizeOf271
 v50:=Tryz.zeroValue271
 t53:=Tryz.underlying255
 a53:=Tryz.isAgg255
 z53:=Tryz.sizeOf255
 v53:=Tryz.zeroValue255
 t55:=Tryz.underlying258
 a55:=Tryz.isAgg258
 z55:=Tryz.sizeOf258
 v55:=Tryz.zeroValue258
 t66:=Tryz.underlying324
 a66:=Tryz.isAgg324
 z66:=Tryz.sizeOf324
 v66:=Tryz.zeroValue324
 t70:=Tryz.underlying328
 a70:=Tryz.isAgg328
 z70:=Tryz.sizeOf328
 v70:=Tryz.zeroValue328
 t76:=Tryz.underlying372
 a76:=Tryz.isAgg372
 z76:=Tryz.sizeOf372
 v76:=Tryz.zeroValue372
 t77:=Tryz.underlying277
 a77:=Tryz.isAgg277
 z77:=Tryz.sizeOf277
 v77:=Tryz.zeroValue277}
end Go.Proofs
namespace Go.Rse
open Go Go.Proofs Go.Proofs.Tryz
section
variable{k n:Nat}{p q:Int}{us:List Int}{vs:List (List Int)}{x:Int}
def mgV:List Int->List Int->List Int
 |[],b=>b
 |x::a,[]=>x::a
 |x::a,y::b=>if y<x then y::mgV (x::a) b else if x<y then x::mgV a (y::b)else x::mgV a b
termination_by a b=>a.length+b.length
abbrev AscI(l:List Int):Prop:=l.Pairwise (· < ·)
theorem zlU(a b:List Int)(x:Int):x∈mgV a b↔x∈a\/x∈b:=by
 fun_induction mgV a b<;>grind
def zsp(a b:List Int)(N:AscI a)(K:AscI b):AscI (mgV a b):=by
 fun_induction mgV a b<;>grind[zlU,List.pairwise_cons]
def zsq:∀{l m:List Int},AscI l->AscI m->(∀x,x∈l↔x∈m)->l=m
 |[],[],_,_,_=>rfl
 |[],y::m,_,_,h=>by have:=(h y).2 ah;simp at this
 |x::l,[],_,_,h=>by have:=(h x).1 ah;simp at this
 |x::l,y::m,hl,hm,h=>by
  have hl:=x6.1 hl;have hm:=x6.1 hm
  have e:x=y:=by
   have h1:=(h x).1 ah;have N:=(h y).2 ah;all_goals grind
  subst e;rw[zsq (l:=l) (m:=m) hl.2 hm.2 (λz=>by have:=h z;grind)]
def ownM(us:List Int):List Int:=if us=[]then[]else(List.range (us.length+1)).map (pf us)
def moV(vs:List (List Int)):List Int:=vs.foldl (λo us=>mgV o (ownM us)) []
def zmS(N:Pos us):AscI (ownM us):=by
 unfold ownM;split
 ·exact List.Pairwise.nil
 grind[List.Pairwise.imp_of_mem,List.pairwise_lt_range,zzJ]
def zsr:∀(vs:List (List Int))(o:List Int),AscI o->(∀us∈vs,Pos us)->AscI (vs.foldl (λo us=>mgV o (ownM us)) o)/\∀x,x∈vs.foldl (λo us=>mgV o (ownM us)) o↔x∈o\/∃us∈vs,x∈ownM us
 |[],o,h,_=>⟨h,λx=>by simp⟩
 |us::vs,o,h,N=>by
  obtain⟨i1,i2⟩:=zsr vs (mgV o (ownM us)) (zsp _ _ h (zmS (N us ah))) (λv K=>N v (wA _ K))
  grind[zlU]
def zlV(N:∀us∈vs,Pos us):AscI (moV vs):=(zsr vs [] .nil N).1
def zhe(N:∀us∈vs,Pos us):x∈moV vs↔∃us∈vs,x∈ownM us:=by
 simp_all[zsr,moV]
def zlW(h:us≠[])(hk:k<=us.length):pf us k∈ownM us:=by
 grind[ownM]
def ixU(us:List Int)(m:Int):Int:=if us.sum<=m then-1 else nx us m
def bkD(us:List Int)(p:Int):List Int:=(List.range us.length).map λi=>min p (pf us (i+1))-min p (pf us i)
def zH8(N:Pos us):bkD us 0=List.replicate us.length 0:=by
 unfold bkD;refine xI ah λi h1 K=>?_
 grind[zgm]
theorem zss(N:Pos us)(h:us.sum<=p):bkD us p=us:=by
 unfold bkD;refine xI ah λi h1 K=>?_
 simp;have G:=zuC (lgg K);have H:=zca N (k:=i+1) (n:=us.length) aa;rw[zaA]at H;have:=N _ (wK K);omega
def zH9(N:Pos us)(h0:0<=p)(K:p<q)(hn:∀k,k<=us.length->¬(p<pf us k/\pf us k<q)):
 (ixU us p=-1->bkD us q=bkD us p)/\(¬ixU us p=-1->∃i:Nat,ixU us p=i/\i<us.length/\(bkD us p)[i]? =some (p-pf us i)/\0<=p-pf us i/\bkD us q=(bkD us p).set i (p-pf us i+(q-p))/\p-pf us i+(q-p)<=us.sum):=by
 unfold ixU;by_cases c:us.sum<=p
 ·grind[zss]
 ·rw[j8 c];refine⟨λh=>by omega,λ_=>?_⟩;obtain⟨a,b,d⟩:=zgo N h0 aa;generalize nx us p=n at*
  have hq:q<=pf us (n+1):=by grind
  refine⟨n,rfl,a,?_,aa,?_,?_⟩
  ·grind[bkD]
  ·unfold bkD;refine xI ah λi h1 h2=>?_
   rw[List.getElem_set];simp at h1⊢;split
   ·grind
   ·rename_i e;rcases Nat.lt_or_gt_of_ne e with e|e
    ·have H:=zca N (k:=n+1) (n:=i) aa;have G:=zca N (k:=i) (n:=i+1) aa;omega
    ·have H:=zca N (k:=i+1) (n:=n) aa;have G:=zca N (k:=i) (n:=i+1) aa;omega
  ·have:=zca N (k:=n+1) (n:=us.length) aa;rw[zaA]at this;have:=zgm N n;omega
def mo_gap(N:∀us∈vs,Pos us)(h1:(moV vs)[n]? =some p)(h2:(moV vs)[n+1]? =some q)(H:us∈vs):p<q/\∀k,k<=us.length->¬(p<pf us k/\pf us k<q):=by
 have ha:=zlV N
 have K:p<q:=by
  grind[List.pairwise_iff_getElem]
 refine⟨K,λk hk G=>?_⟩;by_cases he:us=[]
 ·subst he;simp[pf]at hk G;have h0:=(zhe N).1 (j6 h1);obtain⟨vs',hv,hx⟩:=h0;unfold ownM at hx;split at hx
  ·simp at hx
  ·obtain⟨j,hj,rfl⟩:=jS.1 hx;have:=zgm (N _ hv) j;omega
 ·have hm:=(zhe N).2 ⟨us,H,zlW he hk⟩
  grind[List.mem_iff_getElem?,List.pairwise_iff_getElem]
end
attribute [local irreducible] Pur yy yu Ex X Fn Imp LeV LeB FnO It yA ckT addE addV tq cmpV
section
variable{i:Nat}{α:Type}{d:α}
structure VsK(W:List (List Nu)):Prop where
 l:W.length<=8
 k:∀V∈W,VoK V
abbrev voL(W:List (List Nu)):List (List Ev):=W.map evL
abbrev tqs(l:List Int):AV:=tmsA (l.map tq)
def zbj{W:List (List Nu)}{k:Nat}{V:List Nu}(h:W[k]? =some V):(voL W)[k]? =some (evL V):=ak
structure MgS(a b c e:List Int):Prop where
 s:(c=b/\e=a)\/(c=a/\e=b)
 n:c=[]->a=[]/\b=[]
 h:∀x,c.head?=some x->∀y,e.head?=some y->x<=y
structure MgJ(A B o a b:List Int):Prop where
 l:o.length+a.length+b.length<=A.length+B.length
 so:AscI o
 sa:AscI a
 sb:AscI b
 m:∀x,x∈mgV A B↔x∈o\/x∈a\/x∈b
 y:∀x∈o,∀z,z∈a\/z∈b->x<=z
 u:∀x,x∈A\/x∈B->Uq x
def zIa{A B:List Int}(N:AscI A)(K:AscI B)(H:∀x,x∈A\/x∈B->Uq x):MgJ A B [] A B:=⟨ah,.nil,N,K,λx=>by rw[zlU];simp,λx hx=>by simp at hx,H⟩
abbrev mgP(a b:List Int):Prop:=((a.map tq).length:Int)=0\/0<((b.map tq).length:Int)/\cmpV ((b.map tq).getD (Int.toNat 0) default) ((a.map tq).getD (Int.toNat 0) default)<0
def zCR{a b:List Int}(H:∀x,x∈a\/x∈b->Uq x):∃c e,MgS a b c e/\(mgP a b->c=b/\e=a)/\(¬mgP a b->c=a/\e=b):=by
 by_cases h:mgP a b
 ·refine⟨b,a,⟨.inl ⟨rfl,rfl⟩,λe=>?_,λx hx y K=>?_⟩,λ_=>⟨rfl,rfl⟩,λN=>absurd h N⟩
  ·grind
  ·cases a with
   |nil=>simp at K
   |cons z a=>
    cases b<;>grind[zg8]
 ·refine⟨a,b,⟨.inr ⟨rfl,rfl⟩,λe=>?_,λx hx y K=>?_⟩,λN=>absurd N h,λ_=>⟨rfl,rfl⟩⟩
  ·simp_all
  ·cases a with
   |nil=>simp at hx
   |cons z a=>
    cases b<;>grind[zg8]
def zCS{l:List α}(h:i<l.length):l[i]? =some (l.getD i d):=ak
def zIb{A B o a b:List Int}(h:MgJ A B o a b):∀x,x∈a\/x∈b->Uq x:=λx hx=>h.u x ((zlU A B x).1 ((h.m x).2 (.inr hx)))
def zzX:∀{o:List Int}{y:Int},AscI o->o.getLast?=some y->∀z∈o,z<=y:=by
 intro o y h hl z N;obtain⟨o',rfl⟩:=List.getLast?_eq_some_iff.1 hl;rcases w9.1 N with N|N
 ·have:=(vW.1 h).2.2 z N y ah;omega
 grind
def mg_hd{e:List Int}{x:Int}(h:∀y,e.head?=some y->x<=y)(he:AscI e):∀y∈e,x<=y:=by
 cases e with
 |nil=>simp
 |cons v e=>
  intro y N;have h1:=h v rfl
  grind[List.pairwise_cons]
theorem zzY{A B o a b c e:List Int}{x:Int}(h:MgJ A B o a b)(hs:MgS a b (x::c) e):AscI (x::c)/\AscI e/\(∀z,z∈a\/z∈b↔z=x\/z∈c\/z∈e)/\c.length+e.length+1=a.length+b.length/\∀y∈e,x<=y:=by
 obtain⟨h1,N,K,H,G,h6,h7⟩:=h;have he:AscI e:=by rcases hs.s with⟨p,q⟩|⟨p,q⟩<;>rw[q]<;>assumption
 refine⟨by rcases hs.s with⟨p,q⟩|⟨p,q⟩<;>rw[p]<;>assumption,he,λz=>?_,?_,mg_hd (hs.h x rfl) he⟩
 ·rcases hs.s with⟨p,q⟩|⟨p,q⟩<;>rw[←p,q,jW]<;>grind
 ·rcases hs.s with⟨p,q⟩|⟨p,q⟩<;>rw[←p,q,w5]<;>omega
def zCT{A B o a b c e:List Int}{x:Int}(h:MgJ A B o a b)(hs:MgS a b (x::c) e)(hn:∀y,o.getLast?=some y->y≠x):MgJ A B (o++[x]) c e:=by
 obtain⟨t1,t2,t3,t4,t5⟩:=zzY h hs;obtain⟨h1,G,h3,h4,h5,h6,h7⟩:=h;have t6:=x6.1 t1;refine⟨by rw[jJ,uI];omega,vW.2 ⟨G,ah,λy N z K=>?_⟩,t6.2,t2,λz=>?_,λy N z K=>?_,h7⟩
 ·rw[w6]at K;subst K
  obtain⟨v,H⟩:∃v,o.getLast?=some v:=by
   cases o with
   |nil=>simp at N
   |cons w o=>exact⟨_,List.getLast?_eq_some_getLast ah⟩
  have:=zzX G H y N;have:=h6 v (List.mem_of_getLast? H) z ((t3 z).2 (.inl rfl));have:=hn v H;omega
 all_goals grind
def zCU{A B o a b c e:List Int}{x:Int}(h:MgJ A B o a b)(hs:MgS a b (x::c) e)(hn:o.getLast?=some x):MgJ A B o c e:=by
 grind[zzY,MgJ]
def zxt{o:List Int}{y:Int}(h:o.getLast?=some y):(o.map tq).getD (((o.map tq).length:Int)-1).toNat default=tq y:=by
 obtain⟨o',rfl⟩:=List.getLast?_eq_some_iff.1 h;simp
def zCV{o:List Int}(h:¬((o.map tq).length:Int)=0):∃y,o.getLast?=some y:=by
 simp_all[List.getLast?_eq_some_getLast]
def zIc{A B o:List Int}(N:AscI A)(K:AscI B)(h:MgJ A B o [] []):o=mgV A B:=zsq h.so (zsp A B N K) λx=>by rw[h.m];simp
def zb8(a b:Tm):Fn prog 119 [tmA a,tmA b] (iv (cmpV a b)):=by
 refine bB func119 ntmps119 (λg w d=>?_);refine gc (zbB a b) ?_;all_goals exact zR
def zj4(W:List (List Nu))(h:VsK W):Fn prog 72 [vosA (voL W)] (.tup [iv 0,iv 0]):=by
 have hl:=h.l;have hn:(voL W).length=W.length:=jD ..;refine bB func72 ntmps72 (λg w d=>?_);refine gd ?_ ?_<;>intro N
 ·exact absurd N aa
 apply yf;apply ye;apply yc;refine yo ?_;apply kX;refine y9 [11,12] (λk zz=>(13,iv (k:Int))::zz) [] (λ_ zz=>zz) W.length (λk hk=>?_);refine gd ?_ ?_<;>intro G
 ·obtain⟨V,H⟩:∃V,W[k]? =some V:=⟨_,lgg aa⟩;have he:=zbj H;have xT:(voL W)[(k:Int).toNat]? =some (evL V):=ao he
  refine gc (zbW V (h.k V (j6 H))) ?_;refine gd ?_ ?_<;>intro K
  ·exact absurd K ac
  refine gq ?_;refine yr (k+1) (hI:=kW)
 ·refine gq ?_;refine yn ?_ ?_;all_goals exact zR
def zdp(A B:List Int)(hA:AscI A)(hB:AscI B)(hu:∀x,x∈A\/x∈B->Uq x)(hl:A.length+B.length<=1000):Fn prog 164 [tqs A,tqs B,.fn 119 []] (tqs (mgV A B)):=by
 refine bB func164 ntmps164 (λg w d=>?_);apply yc;refine ya ?_;apply yp;refine yk ?_;apply ye;apply kX;refine yl (yz tmE 35 2 7 30 rfl rfl) ?_;refine zag (ι:=List Int×List Int×List Int) [2,7] (λ(p:List Int×List Int×List Int)zz=>(0,tqs p.2.1)::(1,tqs p.2.2)::zz) [] (λ(p:List Int×List Int×List Int)zz=>(30,.row tmE (p.1.map tq) 35 2)::zz) (λ(p:List Int×List Int×List Int)=>MgJ A B p.1 p.2.1 p.2.2) (λ(p:List Int×List Int×List Int)=>p.2.1.length+p.2.2.length) ([],A,B) (λp hk=>?_) (hJ:=by exact zIa hA hB hu);obtain⟨o,a,b⟩:=p;dsimp only at*
 have v5:=hk.l;have ea:(a.map tq).length=a.length:=jD ..;have eb:(b.map tq).length=b.length:=jD ..;have eo:(o.map tq).length=o.length:=jD ..;have xT:=zCR (zIb hk);obtain⟨c,e,hs,x2,x1⟩:=xT;refine gd ?_ ?_<;>intro H
 ·apply yf;apply kX;refine zbm ⟨[(0,tqs c),(1,tqs e),(2,.fn 119 []),(7,.own 30)],[(30,.row tmE (o.map tq) 35 2)]⟩ (λG=>?_) ?_
  ·apply ye;refine y4 [14,15,16,17,18,19,20,21,22,23,24,25,26,27,28,29,30,31,32] [0,1,3,7,15,31,63,127,255,255,767,1791,255,4351,12543,32767,65535,131071,262143] mo ?_;(iterate 4 refine yb ?_);(iterate 11 refine bL ?_);refine bZ (zb8 _ _) ?_;(iterate 2 refine bL ?_);refine yb ?_;refine yD ?_;refine gd ?_ ?_<;>intro x0
   ·have w2:=x2 x0;obtain⟨rfl,rfl⟩:=w2;apply yd;refine ya ?_;refine yo ?_;exact yl kW G
   ·have v9:=x1 (by unfold mgP;omega);obtain⟨rfl,rfl⟩:=v9;apply yf;exact yl kW G
  obtain⟨x,c,rfl⟩:∃x c2,c=x::c2:=by
   cases c with
   |nil=>have:=hs.n rfl;rw[this.1,this.2]at H;simp at H
   |cons x c=>exact⟨x,c,rfl⟩
  have v4:((x::c).map tq)[(0:Int).toNat]? =some (tq x):=rfl;have v3:((x::c).map tq).length=c.length+1:=ah
  have v2:=(zzY hk hs).2.2.2.1;refine gq ?_;refine y4 [35,36,37,38,39,40,41,42,43,44,45,46,47,48,49] [0,1,3,7,15,15,47,111,255,511,15,1039,3087,8191,16383] mo ?_;iterate 4 refine yb ?_
  iterate 5 refine bL ?_
  refine bL (x:=.agg (tmE ((o.map tq).getD ((((o.map tq).length:Nat):Int)-1).toNat default))) (hs:=by intro v1;exact zQ (enc:=tmE) rfl rfl (zCS aa) rfl rfl ty35) ?_;iterate 4 refine bL ?_
  refine yb ?_;refine yD ?_;refine gd ?_ ?_<;>intro N
  ·have v0:o.map tq++[tq x]=(o++[x]).map tq:=ah
   have K:=zCT hk hs λy hy e=>by
    rcases N with h|h
    ·rw[eo]at h;have:=List.mem_of_getLast? hy;rw[show o=[]from jT aa]at this;simp at this
    ·exact h ((zxt hy).trans (by rw[e]))
   refine gq ?_;refine yH tmE [tq x] ?_;refine gq ?_
   first
    |refine yO (y8 rfl rfl rfl sl48 ty35 aa aa) rfl ?_
    |refine yO (zb2 rfl rfl sl48 ty35 (λ_=>rfl) aa aa) rfl ?_
   refine gq ?_;refine yr ((o++[x],c,e)) (hJ:=by exact K) (hm:=by(show c.length+e.length<a.length+b.length;omega)) (hI:=kW)
  ·have K:MgJ A B o c e:=by
    have v8:=zCV N.1;obtain⟨y,hy⟩:=v8;exact zCU hk hs (hy.trans (jA some (zrU ((zxt hy).symm.trans N.2))))
   refine gq ?_
   first
    |refine yO (y8 rfl rfl rfl sl48 ty35 aa aa) rfl ?_
    |refine yO (zb2 rfl rfl sl48 ty35 (λ_=>rfl) aa aa) rfl ?_
   refine gq ?_;refine yr ((o,c,e)) (hJ:=by exact K) (hm:=by(show c.length+e.length<a.length+b.length;omega)) (hI:=kW)
 ·obtain rfl:a=[]:=jT aa;obtain rfl:b=[]:=jT aa;have hV:=zIc hA hB hk;apply bH;apply yc;refine yC ?_;refine bC ?_;refine yi (kY (k:=30) rfl) ?_;refine gq ?_;all_goals(first|exact jA (λz=>tqs z) hV|rfl)
end
section
structure Stt where
 At:Tm
 Dur:Tm
 E:List Int
def sttE:Stt->List AV:=λs=>[iv s.At.N,iv s.At.D,iv s.Dur.N,iv s.Dur.D,yj s.E]
abbrev uW(W:List (List Nu)):List (List Int):=W.map usV
def moW(W:List (List Nu)):List Int:=moV (uW W)
def stt1(W:List (List Nu))(p q:Int):Stt:=⟨tq p,tq (q-p),(uW W).map λus=>ixU us p⟩
def sttL(W:List (List Nu)):List Stt:=(List.range ((moW W).length-1)).map λn=>stt1 W ((moW W).getD n 0) ((moW W).getD (n+1) 0)
def sttX(W:List (List Nu)):List (List AV):=(sttL W).map λs=>[.agg (sttE s),iv 0]
section
variable{W:List (List Nu)}{V:List Nu}{k n m:Nat}{p q:Int}
variable{U:List (List Int)}{p0:Int}{us:List Int}
def VsK.pos(h:VsK W):∀us∈uW W,Pos us:=λus N=>by
 obtain⟨V,K,rfl⟩:=jS.1 N;exact(h.k V K).pos
def zCW(h:W[k]? =some V):moV (uW (W.take (k+1)))=mgV (moV (uW (W.take k))) (ownM (usV V)):=by
 simp_all[moV,jK]
def zxu{V:List Nu}(h:VoK V):∀x∈ownM (usV V),0<=x/\x<=60000:=λx hx=>by
 unfold ownM at hx;split at hx
 ·simp at hx
 ·obtain⟨j,_,rfl⟩:=jS.1 hx;exact h.pf j
theorem zpv(h:VoK V):(ownM (usV V)).length<=61:=by
 have:=h.l
 grind[ownM]
def VsK.take(h:VsK W)(k:Nat):VsK (W.take k):=⟨by have:=h.l;grind,λV N=>h.k V (xG N)⟩
def zlX(h:VsK W):∀x∈moW W,0<=x/\x<=60000:=λx hx=>by
 obtain⟨us,N,hx⟩:=(zhe h.pos).1 hx;obtain⟨V,K,rfl⟩:=jS.1 N;exact zxu (h.k V K) x hx
theorem zzZ(a b:List Int):(mgV a b).length<=a.length+b.length:=by
 fun_induction mgV a b<;>grind
def zst:∀{W:List (List Nu)}(k:Nat),(∀V∈W,VoK V)->k<=W.length->(moV (uW (W.take k))).length<=61*k
 |W,0,_,_=>by simp[moV]
 |W,k+1,h,hk=>by
  have h1:=zst k h aa;have N:W[k]? =some W[k]:=lgg aa;rw[zCW N]
  grind[zzZ,zpv]
def zgA(h:VsK W):(moW W).length<=488:=by
 have h1:=zst W.length h.k (jG _);rw[jR]at h1;have:=h.l;unfold moW;omega
theorem zxv(V:List Nu)(j:Nat):((List.range j).map (pf (usV V))).map tq++[tq (pf (usV V) j)]=((List.range (j+1)).map (pf (usV V))).map tq:=by
 rw[wR];simp
def zCX(h:¬V=[]):((List.range V.length).map (pf (usV V))).map tq++[tq (usV V).sum]=(ownM (usV V)).map tq:=by
 grind[zrZ,zxv,ownM,List.length_map]
def zCY:((List.range ([]:List Nu).length).map (pf (usV []))).map tq=(ownM (usV [])).map tq:=rfl
def ptU(us:List Int)(p:Int):Nat:=min (nx us p) (us.length-1)
def zId(N:Pos us):ptU us 0=0:=by
 have:nx us 0=0:=by
  cases us with
  |nil=>rfl
  |cons u r=>have:=N u ah;rw[nx,j8 aa]
 grind[ptU]
def zCZ{p:Int}(N:Pos us)(h0:0<=p):pf us (nx us p)<=p:=by
 rcases Int.lt_or_le p us.sum with h|h
 ·exact(zgo N h0 h).2.1
 ·rw[zdm N (jG _) (by rw[zaA];exact h) (.inl rfl),zaA];exact h
def zC0{p:Int}(N:Pos us)(h0:0<=p):pf us (ptU us p)<=p:=xH (zca N (Nat.min_le_left _ _)) (zCZ N h0)
def zC1{p:Int}{m:Nat}(N:Pos us)(h0:0<=p)(hm:m<=us.length-1)(h1:pf us m<=p)(G:¬(m+1<us.length/\pf us (m+1)<=p)):m=ptU us p:=by
 unfold ptU;rcases wH (m+1) us.length with h|h
 ·rw[zdm N (n:=m) aa h1 (.inr aa)];omega
 ·rcases Int.lt_or_le p us.sum with K|K
  ·obtain⟨a,b,c⟩:=zgo N h0 K
   have:nx us p=m:=by
    refine jY λH=>?_
    have:=zca N (k:=nx us p+1) (n:=m) aa;omega
   omega
  grind[zdm,zaA]
def zC2{p:Int}(N:Pos us)(h0:0<=p)(h:¬us.sum<=p):ixU us p=(ptU us p:Int):=by
 obtain⟨a,-,-⟩:=zgo N h0 aa
 grind[ixU,ptU]
def atR(U:List (List Int))(k:Nat)(p p0:Int):List Int:=(U.take k).map (λus=>(ptU us p:Int))++(U.drop k).map λus=>(ptU us p0:Int)
def zuS(U:List (List Int))(k:Nat)(p p0:Int):(atR U k p p0).length=U.length:=by
 grind[atR]
def zz0(h:U[k]? =some us):(atR U k p p0)[k]? =some (ptU us p0:Int)/\(atR U k p p0).set k (ptU us p)=atR U (k+1) p p0:=by
 grind[List.drop_eq_getElem_cons,List.length_map,atR]
def zC3(U:List (List Int))(p p0:Int):atR U U.length p p0=U.map λus=>(ptU us p:Int):=by unfold atR;simp
def zC4(U:List (List Int))(p p0:Int):atR U 0 p p0=U.map λus=>(ptU us p0:Int):=by unfold atR;simp
def moP(W:List (List Nu))(n:Nat):Int:=if n=0 then 0 else(moW W).getD (n-1) 0
def znX(h1:(moW W)[n]? =some p)(N:(moW W)[n+1]? =some q):(sttL W)[n]? =some (stt1 W p q):=by
 grind[sttL]
def zeo(W:List (List Nu)):(sttL W).length=(moW W).length-1:=by unfold sttL;simp
end
end
section
attribute [local irreducible] pf evL ownM ixU ptU atR moP sttL
def zh0(W:List (List Nu))(h:VsK W):Fn prog 118 [vosA (voL W)] (tqs (moW W)):=by
 have hl:=h.l;have hn:(voL W).length=W.length:=jD ..;refine bB func118 ntmps118 (λg w d=>?_);apply yc;refine ya ?_;apply yp;refine yk ?_;apply ye;apply yc;refine yo ?_;apply kX;refine y9 [11,12] (λk zz=>(3,tqs (moV (uW (W.take k))))::(13,iv (k:Int))::zz) [] (λ_ zz=>zz) W.length (λk hk=>?_);refine gd ?_ ?_<;>intro v8
 ·obtain⟨V,hV⟩:∃V,W[k]? =some V:=⟨_,lgg aa⟩;have he:=zbj hV;have v5:(voL W)[(k:Int).toNat]? =some (evL V):=ao he
  have N:=h.k V (j6 hV);have v4:=N.l;have v3:=zj V;have xT:=zlV (h.take k).pos;have x2:=zmS N.pos;have x1:=zgA (h.take k);have v2:=zpv N
  have H:∀x,x∈moW (W.take k)\/x∈ownM (usV V)->Uq x:=λx hx=>by
   have:=hx.elim (zlX (h.take k) x) (zxu N x);exact⟨this.1,aa⟩
  unfold moW at x1 H;have G:=zdp _ _ xT x2 H aa;rw[←zCW hV]at G;apply yf;apply ye;apply kX;apply yc;iterate 3 refine ya ?_
  apply yp;refine yk ?_;iterate 2 apply ye
  refine yl (yz tmE 35 2 6 31 rfl rfl) ?_;apply yd;refine yo ?_;apply kX;refine y9 [3,5,6,11,12,13,17,18] (λj zz=>(19,iv (j:Int))::zz) [] (λj zz=>(31,.row tmE (((List.range j).map (pf (usV V))).map tq) 35 2)::zz) V.length (λj hk=>?_);refine gd ?_ ?_<;>intro v1
  ·obtain⟨x,hx⟩:∃x,V[j]? =some x:=⟨_,lgg aa⟩;have x0:=zdJ hx;have v0:(evL V)[(j:Int).toNat]? =some (evA V j x):=ao x0
   have k9:=zxv V j;refine gq ?_;refine yH tmE [tq (pf (usV V) j)] ?_;refine gq ?_;refine yr (j+1) (hI:=kW)
  ·obtain rfl:j=V.length:=aa
   refine gq ?_;refine zf (zcR V N) ?_;(iterate 3 refine ya ?_);refine yP ?_;refine bF ?_;refine yk ?_;refine zbm ⟨[(3,tqs (moV (uW (W.take k)))),(6,.own 31),(11,vosA (voL W)),(12,iv ((voL W).length:Int)),(13,iv (k:Int))],[(31,.row tmE ((ownM (usV V)).map tq) 35 2)]⟩ (λK=>?_) ?_
   ·refine gd ?_ ?_<;>intro w2
    ·have k8:=zCX (V:=V) (by intro e;subst e;simp[zj]at w2);refine gq ?_;refine yH tmE [tq (usV V).sum] ?_;refine bF ?_;refine yk ?_;exact yl kW K
    ·obtain rfl:V=[]:=jT aa;have k7:=zCY;apply yf;exact yl kW K
   refine yl (st':=⟨[(3,tqs (moV (uW (W.take k)))),(6,tqs (ownM (usV V))),(11,vosA (voL W)),(12,iv ((voL W).length:Int)),(13,iv (k:Int))],[]⟩) ((kY (k:=31) rfl).trans yh) ?_;refine gc G ?_;refine yr (k+1) (hI:=kW)
 ·obtain rfl:k=W.length:=aa
  have v9:moV (uW (W.take W.length))=moW W:=by rw[jR];rfl
  refine gq ?_;all_goals(first|exact jA (λz=>tqs z) v9|rfl)
def zhf(W:List (List Nu))(h:VsK W):Fn prog 73 [vosA (voL W)] (.fn 117 [.ept (λ_:Unit=>[vosA (voL W)]) () 0]):=by
 refine bB func73 ntmps73 (λg w d=>?_);apply yc;refine zax ?_;refine ya ?_;apply yp;refine yC ?_;refine bC ?_;refine yi (bG (k:=1) rfl rfl) ?_;refine gq ?_;all_goals exact zR
end
section
variable{U:List (List Int)}{V:List Nu}{W:List (List Nu)}{i k m n:Nat}{p:Int}{us:List Int}{α:Type}{l:List α}{x:α}
theorem zlY(h:VsK W):AscI (moW W):=zlV h.pos
def zC5(us:List Int)(p:Int):ptU us p<=us.length-1:=Nat.min_le_right _ _
def zsu(h:l[i]? =some x):l.set i x=l:=by
 refine wN λj=>?_
 grind
def zxw(h:VoK V)(N:Uq p)(hm:m+1<V.length):cmpV ((evL V).getD (((m:Int)+1).toNat) default).At (tq p)<=0↔pf (usV V) (m+1)<=p:=by
 obtain⟨x,hx⟩:∃x,V[m+1]? =some x:=⟨_,lgg hm⟩;rw[show((m:Int)+1).toNat=m+1 by omega,jB,zdJ hx];show cmpV (tq (pf (usV V) (m+1))) (tq p)<=0↔_;rw[zg8 (h.uq _) N];omega
def zxx(h:VoK V)(N:Uq p):cmpV (tq (usV V).sum) (tq p)<=0↔(usV V).sum<=p:=by
 have hs:=h.sum;rw[zg8 ⟨hs.1,aa⟩ N];omega
def zIe(h:us.sum<=p):ixU us p=-1:=j7 h
def zC6{e:Int}(N:U[k]? =some us)(h:ixU us p=e):(U.take k).map (λus=>(ixU us p:Int))++[e]=(U.take (k+1)).map λus=>(ixU us p:Int):=by
 rw[jK,N,←h];simp
def zz1(h:VsK W)(K:(moW W)[n]? =some p):0<=moP W n/\moP W n<=p:=by
 have H:=zlX h p (j6 K);unfold moP;split
 ·omega
 ·obtain⟨hn,e⟩:=j5.1 K;have N:n-1<(moW W).length:=aa
  have h1:(moW W)[n-1]? =some (moW W)[n-1]:=lgg N;rw[jB,h1];have:=zlX h _ (j6 h1)
  grind[List.pairwise_iff_getElem,zlY]
def zC7(N:(moW W)[n]? =some p):moP W (n+1)=p:=by
 simp_all[moP]
def zIf(h:VsK W):List.replicate (voL W).length (0:Int)=(uW W).map λus=>(ptU us (moP W 0):Int):=by
 refine xI ah λi h1 N=>?_
 simp only[List.getElem_replicate,List.getElem_map];show(0:Int)=(ptU _ 0:Int);rw[zId (h.k _ (wK _)).pos];rfl
attribute [local irreducible] pf evL ownM ixU ptU atR moP sttL moW
def zfE(W:List (List Nu))(h:VsK W):It prog 117 [.ept (λ_:Unit=>[vosA (voL W)]) () 0] (sttX W):=by
 have hl:=h.l;have hn:(voL W).length=W.length:=jD ..;have x1:(uW W).length=W.length:=jD ..;have j4:=zgA h;have j3:((moW W).map tq).length=(moW W).length:=jD ..;have z1:=zIf h;have j2:=zeo W;have j1:(sttX W).length=(sttL W).length:=jD ..;refine zc1 func117 ntmps117 (λg w d ds Y lY hY=>?_);refine gc (zh0 W h) ?_;refine bP (zez (k:=17) (enc:=intE) 0 sl22 ti3 rfl ac rfl rfl rfl rfl aa (λ_=>rfl) hzS) rfl rfl ?_;refine ya ?_;apply yp;refine yk ?_;apply kX;refine zag (ι:=Nat) [0,1,3,4] (λ(n:Nat)zz=>(5,iv (n:Int))::zz) [] (λ(n:Nat)zz=>(1000000,.yld n true)::(17,.row intE ((uW W).map λus=>(ptU us (moP W n):Int)) 3 1)::zz) (λ(n:Nat)=>n<=(moW W).length-1) (λ(n:Nat)=>(moW W).length-n) 0 (λn hk=>?_);refine gd ?_ ?_<;>intro j0
 ·obtain⟨p,hp⟩:∃p,(moW W)[n]? =some p:=⟨_,lgg aa⟩;obtain⟨q,hq⟩:∃q,(moW W)[n+1]? =some q:=⟨_,lgg aa⟩;have hZ:((moW W).map tq)[(n:Int).toNat]? =some (tq p):=by rw[jN,j9,hp];rfl
  have hX:((moW W).map tq)[((n:Int)+1).toNat]? =some (tq q):=by rw[show((n:Int)+1).toNat=n+1 by omega,j9,hq];rfl
  have G:=zlX h p (j6 hp);have w2:=zlX h q (j6 hq);have H:Uq p:=⟨G.1,aa⟩;have v9:Uq q:=⟨w2.1,aa⟩
  have hW:p<q:=by
   have h1:=j5.1 hp;have h2:=j5.1 hq;have h3:=wF.1 (zlY h) n (n+1) h1.1 h2.1 aa;have h4:=h1.2;have h5:=h2.2;omega
  have v8:=zz1 h hp;obtain⟨v5,v4⟩:=v8;have v3:=zC7 hp;have z2:((uW W).map λus=>(ptU us (moP W n):Int))=atR (uW W) 0 p (moP W n):=(zC4 _ _ _).symm;have v2:(sttX W)[n]? =some [.agg (sttE (stt1 W p q)),iv 0]:=by unfold sttX;rw[j9,znX hp hq];rfl
  have z3:([]:List Int)=((uW W).take 0).map (λus=>(ixU us p:Int)):=rfl;refine gq ?_;refine y4 [6,25,26,27,28,29,30,31,32,33,34,35,36,37] [0,0,2,7,15,0,0,96,224,511,1023,2047,2047,0,12287,32767] mo ?_;iterate 9 refine yb ?_
  refine yI (znJ v9 H rfl aa) ?_;iterate 3 refine yb ?_
  refine ChM.step rfl rfl rfl (zd (k:=6) zc35) rfl ?_;refine zar 12 ⟨[(0,.yv lY),(1,.ept (λ_:Unit=>[vosA (voL W)]) () 0),(3,tqs (moW W)),(4,.own 17),(5,iv (n:Int)),(6,.ptr 6 0 0 0),(7,iv 0)],[(1000000,.yld n true),(17,.row intE ((uW W).map λus=>(ptU us (moP W n):Int)) 3 1),(6,.box (tmE (tq (q-p))) 35)]⟩ (λQ hQ=>?_) (λQ hQ=>?_) ?_
  ·refine bF ?_;refine ya ?_;exact yY kW hQ
  ·refine bF ?_;(iterate 2 refine ya ?_);exact yY kW hQ
  refine gq ?_;refine y4 [8,38,39,40,41,42,43] [0,0,3,7,0,31,0,127] mo ?_;iterate 6 refine yb ?_
  refine ChM.step rfl rfl rfl (zd (k:=8) zx9) rfl ?_;refine yD ?_;refine bF ?_;apply bD;iterate 2 apply ye
  refine yl (zbV intE 3 1 8 41 4 119 _ [iv (tq p).N,iv (tq p).D,iv (tq (q-p)).N,iv (tq (q-p)).D,.own 41] rfl rfl rfl rfl) ?_;apply yd;refine yo ?_;apply kX;refine y9 [0,1,3,4,5,7,8,45] (λk zz=>(46,iv (k:Int))::zz) [1000000,8] (λk zz=>(17,.row intE (atR (uW W) k p (moP W n)) 3 1)::(41,.row intE (((uW W).take k).map (λus=>(ixU us p:Int))) 3 1)::zz) W.length (λk hk=>?_);refine gd ?_ ?_<;>intro hG
  ·obtain⟨V,hV⟩:∃V,W[k]? =some V:=⟨_,lgg aa⟩;have he:=zbj hV;have hF:(voL W)[(k:Int).toNat]? =some (evL V):=ao he
   have K:=h.k V (j6 hV);have hC:=K.l;have h8:=zj V;have xT:(uW W)[k]? =some (usV V):=by rw[j9,hV];rfl
   have v1:(usV V).length=V.length:=jD ..;have v0:=zz0 (p:=p) (p0:=moP W n) xT;obtain⟨a1,a2⟩:=v0;have ale:=zuS (uW W) k p (moP W n);have k9:ptU (usV V) (moP W n)<=V.length-1:=by rw[←v1];exact zC5 _ _
   have k8:=xH (zC0 K.pos v5) v4;have z4:atR (uW W) k p (moP W n)=(atR (uW W) k p (moP W n)).set k (ptU (usV V) (moP W n):Int):=(zsu a1).symm;apply yf;apply ye;apply kX;apply yc;refine yC ?_;apply ye;apply kX;refine zag (ι:=Nat) [0,1,3,4,5,7,8,9,45,46] (λ(m:Nat)zz=>zz) [1000000,8,41] (λ(m:Nat)zz=>(17,.row intE ((atR (uW W) k p (moP W n)).set k (m:Int)) 3 1)::zz) (λ(m:Nat)=>m<=V.length-1/\pf (usV V) m<=p) (λ(m:Nat)=>V.length-m) (ptU (usV V) (moP W n)) (λm hk=>?_) (hJ:=by exact⟨k9,k8⟩);obtain⟨m1,m2⟩:=hk;have ha:((atR (uW W) k p (moP W n)).set k (m:Int))[(k:Int).toNat]? =some (m:Int):=by rw[jN,List.getElem?_set_self aa]
   have k2:((atR (uW W) k p (moP W n)).set k (m:Int)).length=W.length:=by rw[xW];omega
   refine gq ?_;refine y4 [49,50,51,52,53,54,55,56,57,58,59,60,61,62,63,64,65,66,67,68,69,70,71,72,73,74,75,76,77,78,79] [0,0,3,7,15,0,0,96,224,480,1023,2047,4095,4095,16383,32767,4095,4095,200703,462847,987135,2097151,4194303,8388607,4095,4095,50335743,117444607,268435455,536870911,1073741823] mo ?_;(iterate 12 refine yb ?_);(iterate 16 refine bL ?_);refine bZ (zb8 _ _) ?_;refine bL ?_;refine yb ?_;refine yD ?_;refine gd ?_ ?_<;>intro k7
   ·have hss:((atR (uW W) k p (moP W n)).set k (m:Int)).set (k:Int).toNat ((m:Int)+1)=(atR (uW W) k p (moP W n)).set k ((m+1:Nat):Int):=by rw[jN,List.set_set];rfl
    have k6:=(zxw K H aa).1 k7.2;refine gq ?_;refine yr (m+1) (hJ:=by exact⟨aa,k6⟩) (hI:=kW)
   ·have k5:¬(m+1<(usV V).length/\pf (usV V) (m+1)<=p):=λhc=>by
     have h9:=(zxw K H aa).2 hc.2;omega
    obtain rfl:=zC1 K.pos G.1 aa m2 k5;refine gc (zcR V K) ?_;refine y4 [98,99,100,101,102,103,104] [0,0,0,6,14,31,63] mo ?_;(iterate 5 refine yb ?_);refine yI (zb8 _ _) ?_;refine yb ?_;refine yD ?_;refine gd ?_ ?_<;>intro k4
    ·have x2:=zIe ((zxx K H).1 k4);have k3:=zC6 xT x2;refine gq ?_;refine yH intE [_] ?_;refine gq ?_;refine yr (k+1) (hI:=kW)
    ·have x2:=zC2 K.pos G.1 λhc=>absurd ((zxx K H).2 hc) aa
     have k3:=zC6 xT x2;refine gq ?_;refine yH intE [_] ?_;refine gq ?_;refine yr (k+1) (hI:=kW)
  ·obtain rfl:k=W.length:=aa
   have hE1:atR (uW W) W.length p (moP W n)=(uW W).map λus=>(ptU us p:Int):=by rw[←x1,zC3]
   have hE2:((uW W).take W.length).map (λus=>(ixU us p:Int))=(uW W).map (λus=>(ixU us p:Int)):=by rw[←x1,jR]
   have hE3:((uW W).map λus=>(ptU us p:Int))=(uW W).map λus=>(ptU us (moP W (n+1)):Int):=by rw[v3]
   apply bH;apply ye;refine yl (st':=⟨[(0,.yv lY),(1,.ept (λ_:Unit=>[vosA (voL W)]) () 0),(3,tqs (moW W)),(4,.own 17),(5,iv (n:Int)),(7,iv 0),(8,.ptr 8 0 0 0)],[(1000000,.yld n true),(17,.row intE ((uW W).map λus=>(ptU us p:Int)) 3 1),(8,.box [iv (tq p).N,iv (tq p).D,iv (tq (q-p)).N,iv (tq (q-p)).D,.own 41] 119),(41,.row intE ((uW W).map (λus=>(ixU us p:Int))) 3 1)]⟩) kW ?_;refine yl (st':=⟨[(0,.yv lY),(1,.ept (λ_:Unit=>[vosA (voL W)]) () 0),(3,tqs (moW W)),(4,.own 17),(5,iv (n:Int)),(7,iv 0),(8,.ptr 8 0 0 0)],[(1000000,.yld n true),(17,.row intE ((uW W).map λus=>(ptU us p:Int)) 3 1),(8,.box [iv (tq p).N,iv (tq p).D,iv (tq (q-p)).N,iv (tq (q-p)).D,yj ((uW W).map (λus=>(ixU us p:Int)))] 119)]⟩) ((kY (k:=41) rfl).trans yh) ?_;apply yd;(iterate 3 refine ya ?_);refine bX hY rfl rfl rfl (bK _) rfl rfl v2 rfl (λb=>?_);refine gd ?_ ?_<;>intro x0
   ·subst x0;refine bC ?_;refine⟨.inr rfl,_,false,rfl,λhb=>by simp at hb⟩
   subst x0;refine gq ?_;refine yr (n+1) (hI:=kW)
 ·apply bH;refine⟨.inl rfl,_,true,rfl,λ_=>by omega⟩
end
section
variable{V:List Nu}{W:List (List Nu)}{j k:Nat}{p:Int}{ys:List AV}{α:Type}{l:List α}{x:α}
def zjd(h:(sttX W)[j]? =some ys):∃s,(sttL W)[j]? =some s/\[.agg (sttE s),iv 0]=ys:=by
 grind[sttX]
def znY(h:l[k]? =some x):l.take k++[x]=l.take (k+1):=by rw[jK,h];rfl
def rpG(v z:α)(n j:Nat):List α:=List.replicate j v++List.replicate (n-j) z
section
variable{α:Type}{v z:α}{n j:Nat}
def zuT(h:j<=n):(rpG v z n j).length=n:=by unfold rpG;simp;omega
def zC8(v z:α)(n:Nat):[v].take (List.replicate n z).length++(List.replicate n z).drop (min [v].length (List.replicate n z).length)=rpG v z n (min 1 n):=by
 grind[rpG]
def zC9(h:j<=n)(i m:Nat)(hi:i=j)(hm:m=min j (n-j)):(rpG v z n j).take i++(rpG v z n j).take m++(rpG v z n j).drop (i+m)=rpG v z n (j+m):=by
 grind[rpG,List.drop_length_add_append,List.length_replicate,List.replicate_append_replicate]
end
def moQ(W:List (List Nu))(k:Nat):Int:=(moW W).getD k 0
theorem zlZ(h:(moW W)[k]? =some p):moQ W k=p:=by simp_all[moQ]
def zDa(h:VsK W):moQ W 0=0:=by
 cases N:(moW W)[0]? with
 |none=>simp_all[moQ]
 |some p=>
  rw[zlZ N];have hm:=j6 N;have hb:=zlX h p hm;obtain⟨us,G,hx⟩:=(zhe h.pos).1 hm;have K:us≠[]:=λe=>by subst e;simp[ownM]at hx
  have h0:=(zhe h.pos).2 ⟨us,G,zlW K (jU _)⟩;rw[ziZ]at h0;obtain⟨j,hj⟩:=jL.1 h0;obtain⟨a1,e1⟩:=j5.1 N;obtain⟨a2,e2⟩:=j5.1 hj;rcases x7 j with rfl|H
  ·unfold moW at e1;omega
  ·have:=wF.1 (zlV h.pos) 0 j a1 a2 H;unfold moW at e1;omega
def zz2(h:VsK W)(N:V∈W):bkD (usV V) (moQ W ((moW W).length-1))=usV V:=by
 by_cases he:usV V=[]
 ·rw[he];rfl
 ·refine zss (h.k V N).pos ?_;have hm:=(zhe h.pos).2 ⟨usV V,jS.2 ⟨V,N,rfl⟩,zlW he (jG _)⟩;rw[zaA]at hm
  grind[List.mem_iff_getElem?,moW,zlZ,List.pairwise_iff_getElem,zlY]
def gapW(h:VsK W)(N:V∈W){q:Int}(K:(moW W)[k]? =some p)(H:(moW W)[k+1]? =some q):p<q/\∀j,j<=(usV V).length->¬(p<pf (usV V) j/\pf (usV V) j<q):=
 mo_gap (vs:=uW W) h.pos K H (jS.2 ⟨V,N,rfl⟩)
def zDb(us:List Int)(p:Int):ixU us p=-1\/0<=ixU us p:=by grind[ixU]
def zDc:∀(I:Im)(j:Nat)c,(tmE ⟨0,0⟩)[j]? =some c->RV I noNames c (Value.agg #[.int .i64 0,.int .i64 0]).cells[j]! :=λI j c h=>by
 rcases j with _|_|j
 ·injection h with h;subst h;exact .int _ _
 ·injection h with h;subst h;exact .int _ _
 ·simp[tmE]at h
attribute [local irreducible] pf evL ownM ixU ptU moP sttL moW moQ bkD rpG
def zbF(W:List (List Nu))(h:VsK W):Fn prog 33 [vosA (voL W)] (.tup [.sl sttE (sttL W),iv 0]):=by
 have x1:=zeo W;have x0:=zgA h;have K:(sttX W).length=(sttL W).length:=jD ..;refine bB func33 ntmps33 (λg w d=>?_);refine gc (zj4 W h) ?_;refine gd ?_ ?_<;>intro H
 ·exact absurd H ac
 apply yf;apply yc;refine yP ?_;apply bD;iterate 2 apply ye
 refine yl (zK sttE 119 5 6 39 114 rfl rfl) ?_;refine gq ?_;refine zf (zhf W h) ?_;apply bD;apply kX;have w2:[]=(sttL W).take 0:=ah
 have G:(sttL W).take (sttX W).length=sttL W:=by rw[K,jR]
 refine bV (sl:=[2,3,6]) (λj=>([.ptr 2 0 0 0,.ptr 3 0 0 0,.ptr 6 0 0 0],[(2,.box [.nils] 114),(3,.box [iv 0] 29),(6,.box [.own 39] 114),(39,.row sttE ((sttL W).take j) 119 5)])) (λj=>True) 900001 900002 rfl rfl ac (λj zs N=>by obtain⟨i,_,rfl⟩:=zjd N;rfl) ((zfE W h)) trivial rfl rfl ac (jU _) ah (λj zs N=>by obtain⟨i,_,rfl⟩:=zjd N;rfl) (λ_=>rfl) rfl rfl (λl o us=>yh) (trivial) (λj zs N hJ l ready busy rb vs g w hb v9=>?_) (λhJ=>?_)
 ·have xT:=zjd N;obtain⟨s,hi,rfl⟩:=xT;have v8:=znY hi;have v5:((sttL W).take j).length<=4096:=by rw[jO];omega
  apply yc;refine yP ?_;refine bF ?_;apply bD;apply yd;refine yk ?_;refine⟨rfl,rfl,?_⟩;refine gd ?_ ?_<;>intro x2
  ·exact absurd x2 ac
  refine gq ?_;refine yH sttE [s] ?_;iterate 2 refine bF ?_
  apply bD;refine⟨[.ptr 2 0 0 0,.ptr 3 0 0 0,.ptr 6 0 0 0],[(2,.box [.nils] 114),(3,.box [iv 0] 29),(6,.box [.own 39] 114),(39,.row sttE ((sttL W).take (j+1)) 119 5)],yh,rfl,trivial⟩
 rw[G];apply yc;refine ya ?_;iterate 2 refine bF ?_
 apply bD;refine bC ?_;refine yi (kY (k:=39) rfl) ?_;refine bJ (.many ac (.cons (.cellS rfl rfl rfl zxV (kZ ?_)) (.cons (.cellS rfl rfl rfl ty29 (kZ ?_)) .nil)));all_goals rfl
set_option maxRecDepth 9999 in
def zbu(v:Tm)(n:Nat)(hn:n<=400):FnO prog 34 [tmsA [v],iv (n:Int)] [] [] (.own 30) [(30,.row tmE (List.replicate n v) 35 2)]:=by
 have w2:([v].length:Int)=1:=rfl
 have N:Fn prog 74 [.int .u64 1,.int .u64 (n:Int)] (.tup [.int .u64 0,.int .u64 (n:Int)]):=by
  have h:=zn2 1 n ac aa;rw[vX,Nat.div_eq_of_lt aa,Nat.mod_eq_of_lt aa]at h;exact h
 refine bR [] func34 ntmps34 (λg w d vs=>?_);refine gd ?_ ?_<;>intro v9
 ·omega
 apply yf;apply yc;iterate 2 refine ya ?_
 refine yO (zcn rfl zx7 us3 (IntWalk.u64_in _ aa)) rfl ?_;refine ya ?_;refine yO (zcn rfl zx7 us3 (IntWalk.u64_in _ aa)) rfl ?_;refine zf N ?_;iterate 2 refine ya ?_
 refine yo ?_;apply ye;apply yc;iterate 2 refine ya ?_
 refine bI 2 ?_;refine yw ?_;iterate 2 refine bE ?_
 refine gf ?_ ?_<;>intro G
 ·(first|omega|(simp at G;omega))
 refine gq ?_;refine bP (zgM (k:=30) (enc:=tmE) ⟨0,0⟩ sl48 ti35 ac ac rfl rfl rfl rfl aa (λ_=>rfl) zDc) rfl rfl ?_;refine gq ?_;refine yX (zqu rfl rfl rfl (λ_=>rfl) ac (λ_=>rfl) sl48 ty35 rfl) ?_;refine yk ?_;apply ye;apply kX;have v8:=zC8 v (⟨0,0⟩:Tm) n;have v5:((min [v].length (List.replicate n (⟨0,0⟩:Tm)).length:Nat):Int)=((min 1 n:Nat):Int):=ah
 refine zag (ι:=Nat) [7] (λ(q:Nat)zz=>(8,iv (q:Int))::zz) [1000001] (λ(q:Nat)zz=>(30,.row tmE (rpG v (⟨0,0⟩:Tm) n q) 35 2)::zz) (λ(q:Nat)=>q<=n/\(n≠0->1<=q)) (λ(q:Nat)=>n-q) (min 1 n) (λq hk=>?_) (hJ:=by exact⟨aa,λ_=>by omega⟩);obtain⟨K,v4⟩:=hk;have x1:=zuT (v:=v) (z:=(⟨0,0⟩:Tm)) K;refine gd ?_ ?_<;>intro v3
 ·have xT:=zC9 (v:=v) (z:=(⟨0,0⟩:Tm)) K (q:Int).toNat (min (q:Int).toNat ((rpG v (⟨0,0⟩:Tm) n q).length-(q:Int).toNat)) aa aa;have H:q+min (q:Int).toNat ((rpG v (⟨0,0⟩:Tm) n q).length-(q:Int).toNat)=q+min q (n-q):=aa
  rw[H]at xT;apply yf;apply kX;refine zY [⟨0,38,iv (q:Int),[]⟩,⟨1,39,.own 30,[]⟩,⟨2,40,iv (q:Int),[]⟩,⟨3,41,.sub 30 2 (q:Int).toNat ((rpG v (⟨0,0⟩:Tm) n q).length-(q:Int).toNat),[2,1]⟩,⟨4,42,.own 30,[]⟩,⟨5,43,iv (q:Int),[]⟩,⟨6,44,.sub 30 2 0 (q:Int).toNat,[5,4]⟩] [(7,[5,4,2,1,6,3]),(8,[5,4,2,1,6,3,7,0]),(9,[6,5,4,3,2,1,0,7,8])] (λj=>match j with|0=>⟨[(7,.own 30),(8,iv (q:Int))],[(1000001,.hold vs []),(30,.row tmE (rpG v (⟨0,0⟩:Tm) n q) 35 2)]⟩|1=>⟨[(7,.own 30),(8,iv (q:Int)),(45,iv ((min q (n-q):Nat):Int))],[(1000001,.hold vs []),(30,.row tmE (rpG v (⟨0,0⟩:Tm) n (q+min q (n-q))) 35 2)]⟩|2=>⟨[(7,.own 30),(8,iv (q:Int)),(46,iv ((q+min q (n-q):Nat):Int))],[(1000001,.hold vs []),(30,.row tmE (rpG v (⟨0,0⟩:Tm) n (q+min q (n-q))) 35 2)]⟩|_=>⟨[(7,.own 30),(8,iv ((q+min q (n-q):Nat):Int))],[(1000001,.hold vs []),(30,.row tmE (rpG v (⟨0,0⟩:Tm) n (q+min q (n-q))) 35 2)]⟩) mo (zP (yh)) (λj hj=>?_) ⟨λβ=>Co2 rfl (zni rfl rfl rfl (λ_=>rfl) ac (λ_=>rfl) aa aa sl48 ty35 rfl),λβ=>Co2 rfl (yW (bA (zxK rfl rfl (wZ _ aa))) rfl rfl),λβ=>Co2 rfl (yW (bA (zbZ rfl)) rfl rfl),trivial⟩ ?_
  ·rcases j with _|_|_|_|j
   ·(iterate 3 refine⟨.inr ⟨_,rfl,rfl,rfl,rfl,bA yU⟩,?_⟩);refine⟨.inr ⟨_,rfl,rfl,rfl,rfl,bA (y8 rfl rfl rfl sl48 ty35 aa aa)⟩,?_⟩;(iterate 2 refine⟨.inr ⟨_,rfl,rfl,rfl,rfl,bA yU⟩,?_⟩);refine⟨.inr ⟨_,rfl,rfl,rfl,rfl,bA (zdT rfl rfl rfl sl48 ty35 aa aa)⟩,?_⟩;exact True.intro
   ·exact yE
   ·exact yE
   ·exact yE
   ·exact absurd (show j+4<=3 from hj) aa
  refine yr (q+min q (n-q)) (hJ:=by exact⟨aa,λ_=>by omega⟩) (hm:=aa) (hI:=kW)
 ·have x2:q=n:=aa
  subst x2;have x0:rpG v (⟨0,0⟩:Tm) q q=List.replicate q v:=by unfold rpG;simp
  apply bH;apply yc;refine yC ?_;refine bC ?_;refine zm4.mk (ts:=[(4,.own 30)]) (.inr rfl) (kW) (.one (.tmp rfl (kZ rfl)))
def zl0(W:List (List Nu))(h:VsK W)(v:Nat)(V:List Nu)(hV:W[v]? =some V):Fn prog 15 [vosA (voL W),iv (v:Int)] (.tup [tqs (usV V),iv 0]):=by
 have v9:=zeo W;have j3:=zgA h;have hl:=h.l;have hn:(voL W).length=W.length:=jD ..;have hv:=(j5.1 hV).1;have hm:=j6 hV;have hK:=h.k V hm;have j2:=hK.l;have j1:=hK.sum;have x0:=zj V;have v8:(usV V).length=V.length:=jD ..;have he:=zbj hV;have j0:(voL W)[(v:Int).toNat]? =some (evL V):=ao he
 have v5:(uW W)[v]? =some (usV V):=by rw[j9,hV];rfl
 have K:=zbu ⟨0,1⟩ V.length aa;have z1:List.replicate V.length (⟨0,1⟩:Tm)=(bkD (usV V) (moQ W 0)).map tq:=by rw[zDa h,zH8 hK.pos,List.map_replicate,zup,v8]
 rw[z1]at K;refine bB func15 ntmps15 (λg w d=>?_);refine gc (zbF W h) ?_;refine gd ?_ ?_<;>intro v4
 ·exact absurd v4 ac
 apply yc;iterate 2 refine ya ?_
 refine bI 2 ?_;refine yw ?_;iterate 4 refine bE ?_
 refine gf ?_ ?_<;>intro v3
 ·exact absurd v3 aa
 refine gq ?_;refine yH tmE [⟨0,1⟩] ?_;iterate 4 refine ya ?_
 refine ya (x:=iv (V.length:Int)) (hs:=by have h9:=x0;rw[←x0];exact yU) ?_;refine yY (kY (k:=31) rfl) ?_;refine y0 [(30,41)] K ?_;refine yk ?_;apply ye;apply yc;refine yo ?_;apply kX;refine y9 [1,7,8,38,39] (λk zz=>(40,iv (k:Int))::zz) [] (λk zz=>(41,.row tmE ((bkD (usV V) (moQ W k)).map tq) 35 2)::zz) ((sttL W).length) (λk hk=>?_);refine gd ?_ ?_<;>intro hZ
 ·obtain⟨p,hp⟩:∃p,(moW W)[k]? =some p:=⟨_,lgg aa⟩;obtain⟨q,hq⟩:∃q,(moW W)[k+1]? =some q:=⟨_,lgg aa⟩;have v2:=znX hp hq;have hY:(sttL W)[(k:Int).toNat]? =some (stt1 W p q):=ao v2
  have v1:=zlX h p (j6 hp);have hX:=zlX h q (j6 hq);have v0:=gapW h hm hp hq;obtain⟨k9,N⟩:=v0;have k8:=zH9 hK.pos v1.1 k9 N;obtain⟨xT,x2⟩:=k8;have x1:=zlZ hp;have H:=zlZ hq;have hW:(stt1 W p q).E[(v:Int).toNat]? =some (ixU (usV V) p):=by rw[jN];show((uW W).map _)[v]? =_;rw[j9,v5];rfl
  refine gd ?_ ?_<;>intro hG
  ·have k7:=x2 aa;obtain⟨i,hi,hF,k6,hC,w2,h8⟩:=k7;have h5:=hK.pf i;have G:((bkD (usV V) (moQ W k)).map tq)[(ixU (usV V) p).toNat]? =some (tq (p-pf (usV V) i)):=by rw[x1,hi,jN,j9,k6];rfl
   have h4:=(j5.1 G).1;have k5:((bkD (usV V) (moQ W k)).map tq).set (ixU (usV V) p).toNat (tq (p-pf (usV V) i+(q-p)))=(bkD (usV V) (moQ W (k+1))).map tq:=by rw[x1,H,hi,jN,w2,List.map_set]
   have k4:Uq (p-pf (usV V) i):=⟨aa,aa⟩;have k3:Uq (q-p):=⟨aa,aa⟩;clear xT x2 N;apply ye;refine y4 [51,52,53,54,55,56,57,58,59,60,61,62,63] [0,0,0,0,12,28,0,64,252,508,1020,1020,2047,6143,16383] mo ?_;(iterate 5 refine yb ?_);refine yb (hs:=by exact zQ (enc:=tmE) rfl rfl G rfl rfl ty35) ?_;(iterate 2 refine yb ?_);refine yI (C_qadd k4 k3 rfl aa) ?_;(iterate 4 refine yb ?_);refine zar 11 ⟨[(1,iv (v:Int)),(7,iv 0),(8,.own 41),(38,.sl sttE (sttL W)),(39,iv ((sttL W).length:Int)),(40,iv (k:Int))],[(41,.row tmE ((bkD (usV V) (moQ W (k+1))).map tq) 35 2)]⟩ (λQ hQ=>?_) (λQ hQ=>?_) ?_
   ·refine bF ?_;refine ya ?_;exact yY kW hQ
   ·refine bF ?_;(iterate 2 refine ya ?_);exact yY kW hQ
   refine gd ?_ ?_<;>intro k2
   ·exact absurd rfl k2
   refine gq ?_;refine yr (k+1) (hI:=kW)
  ·have k5:(bkD (usV V) (moQ W k)).map tq=(bkD (usV V) (moQ W (k+1))).map tq:=by rw[x1,H,xT (by have:=zDb (usV V) p;omega)]
   clear xT x2 N;refine gq ?_;refine yr (k+1) (hI:=kW)
 ·obtain rfl:k=(sttL W).length:=aa
  have j4:(bkD (usV V) (moQ W (sttL W).length)).map tq=(usV V).map tq:=by rw[v9,zz2 h hm]
  apply bH;apply yc;refine yo ?_;refine bC ?_;refine yi (kY (k:=41) rfl) ?_;refine yn ?_ ?_;all_goals(first|exact jA (λz=>tmsA z) j4|rfl)
end
section
variable{k n:Nat}{p q u:Int}{x:Int×Bool}
structure Md where
 P:Int
 D:Bool
 T:Bool
 deriving DecidableEq
def mdE:Md->List AV:=λm=>[iv m.P,.bool m.D,.bool m.T]
abbrev mdA(m:Md):AV:=.agg (mdE m)
def vu(p:Int)(b:Bool):Int:=bif b then[3,6,12,24,48,96,192,384,768,1536].getD (p+3).toNat 0 else[2,4,8,16,32,64,128,256,512,1024].getD (p+3).toNat 0
def pwN(p:Int):Int:=if p<0 then 1 else 2^p.toNat
def pwD(p:Int):Int:=if p<0 then 2^(-p).toNat else 1
def zuU(h:-3<=p/\p<=6):p=-3\/p=-2\/p=-1\/p=0\/p=1\/p=2\/p=3\/p=4\/p=5\/p=6:=aa
def zIg(h:-3<=p/\p<=6):1<=pwN p/\pwN p<=64/\1<=pwD p/\pwD p<=64:=by
 rcases zuU h with e|e|e|e|e|e|e|e|e|e<;>subst e<;>decide
def zDd(h:-3<=p/\p<=6):(tmkE (pwN p) (pwD p)=0/\tmkT (pwN p) (pwD p)=tq (vu p false))/\(tmkE (3*pwN p) (2*pwD p)=0/\tmkT (3*pwN p) (2*pwD p)=tq (vu p true)):=by
 rcases zuU h with e|e|e|e|e|e|e|e|e|e<;>subst e<;>decide+kernel
def zxy(h:0<=q/\q<=6):IntKind.i64.wrap (1*2^q.toNat)=1*2^q.toNat:=by
 have:q=0\/q=1\/q=2\/q=3\/q=4\/q=5\/q=6:=aa
 rcases this with e|e|e|e|e|e|e<;>subst e<;>decide
def zxz(h:p<0):(1:Int)*2^(-p).toNat=pwD p/\pwN p=1:=by simp_all[pwD,pwN]
def zxA(h:0<=p):(1:Int)*2^p.toNat=pwN p/\pwD p=1:=by simp_all[pwD,pwN,j8]
def zik{n:Int}(h:tmkE n q=0/\tmkT n q=tq u)(h0:1<=n/\n<=1000)(h1:1<=q/\q<=1000):Fn prog 71 [iv n,iv q] (.tup [tmA (tq u),iv 0]):=by
 have:=zcQ n q aa aa aa;rw[h.1,h.2]at this;exact this
def zz3(u:Int):(tq u).D<=64/\andI (tq u).D ((tq u).D-1)=0:=by
 rcases zg7 u with e|e|e|e|e<;>rw[e]<;>decide+kernel
theorem zIh{a b:Int}(N:Uq a)(K:Uq b):decide (cmI3 a b<0)=decide (a<b):=by
 grind[cmI3]
def lgL:List (Int×Bool):=(List.range 10).flatMap λ(k:Nat)=>[(6-(k:Int),true),(6-(k:Int),false)]
def lgN(u:Int):Nat:=lgL.findIdx λx=>decide (vu x.1 x.2<=u)
def lgV(u:Int):Md:=⟨(lgL.getD (lgN u) (0,false)).1,(lgL.getD (lgN u) (0,false)).2,false⟩
def vuM(m:Md):Int:=vu m.P m.D
def zDe(b:Bool)(h:k<10):lgL[2*k+(bif b then 0 else 1)]? =some (6-(k:Int),b):=by
 have:k=0\/k=1\/k=2\/k=3\/k=4\/k=5\/k=6\/k=7\/k=8\/k=9:=aa
 rcases this with e|e|e|e|e|e|e|e|e|e<;>subst e<;>cases b<;>decide
def zDf(hx:lgL[n]? =some x)(h1:∀j<n,∀y,lgL[j]? =some y->u<vu y.1 y.2)(N:vu x.1 x.2<=u):lgV u=⟨x.1,x.2,false⟩:=by
 grind[lgN,List.findIdx_eq,lgV]
def zDg(N:2<=u)(h:∀j<20,∀y,lgL[j]? =some y->u<vu y.1 y.2):False:=by
 have:=h 19 ac (-3,false) ac
 grind[vu]
def zIi(hx:lgL[n]? =some x)(h:∀j<n,∀y,lgL[j]? =some y->u<vu y.1 y.2)(N:u<vu x.1 x.2):∀j<n+1,∀y,lgL[j]? =some y->u<vu y.1 y.2:=λj K y H=>by
 grind
def zsv(b:Bool)(h:-3<=p/\p<=6):Uq (vu p b):=by
 rcases zuU h with e|e|e|e|e|e|e|e|e|e<;>subst e<;>cases b<;>exact⟨ac,ac⟩
attribute [local irreducible] vu pwN pwD lgV lgL
def zhy(p:Int)(b:Bool)(h:-3<=p/\p<=6):Fn prog 53 [.agg [iv p,.bool b,.bool false]] (.tup [tmA (tq (vu p b)),iv 0]):=by
 have hb:=zIg h;have x2:=zDd h;obtain⟨⟨v1,v2⟩,v3,v4⟩:=x2;refine bB func53 ntmps53 (λg w d=>?_);apply yc;refine zl ?_;refine yP ?_;refine yk ?_;apply ye;apply yc;iterate 3 refine ya ?_
 refine bI 3 ?_;refine yw ?_;iterate 3 refine bE ?_
 refine gf ?_ ?_<;>intro x1
 ·exact absurd x1 aa
 refine gd ?_ ?_<;>intro H
 ·have e1:=(zxz H).2;rw[e1]at v1 v2 v3 v4;apply yd;iterate 3 refine ya ?_
  refine ya (x:=iv (pwD p)) (hs:=by rw[←(zxz H).1];exact zth rfl rfl aa aa (zxy aa)) ?_;refine gd ?_ ?_<;>intro G
  ·subst G;have N:=And.intro v3 v4;refine gd ?_ ?_<;>intro x0
   ·cases x0
   refine gc (zik N aa aa) ?_;refine yR ty35 ?_ ?_;all_goals exact zR
  ·subst G;have K:=And.intro v1 v2;refine gd ?_ ?_<;>intro w2
   ·cases w2
   refine gc (zik K aa aa) ?_;refine yR ty35 ?_ ?_;all_goals exact zR
 ·have e1:=(zxA (p:=p) aa).2;rw[e1]at v1 v2 v3 v4;apply yd;iterate 2 refine ya ?_
  refine ya (x:=iv (pwN p)) (hs:=by rw[←(zxA aa).1];exact zth rfl rfl aa aa (zxy aa)) ?_;refine gd ?_ ?_<;>intro xT
  ·subst xT;have N:=And.intro v3 v4;refine gd ?_ ?_<;>intro v9
   ·cases v9
   refine gc (zik N aa aa) ?_;refine yR ty35 ?_ ?_;all_goals exact zR
  ·subst xT;have K:=And.intro v1 v2;refine gd ?_ ?_<;>intro v8
   ·cases v8
   refine gc (zik K aa aa) ?_;refine yR ty35 ?_ ?_;all_goals exact zR
def zl1(u:Int):Fn prog 144 [tmA (tq u)] (.bool true):=by
 have N:=zz3 u;obtain⟨h1,H⟩:=N;have G:=zg7 u;refine bB func144 ntmps144 (λg w d=>?_);apply yc;refine zl ?_;refine ya ?_;apply yp;iterate 3 refine ya ?_
 refine bI 3 ?_;refine yw ?_;iterate 4 refine bE ?_
 refine bE (hs:=by intro K;exact zkx rfl rfl (wZ _ aa)) ?_;refine bE (x:=iv (andI (tq u).D ((tq u).D-1))) (hs:=by intro K;exact zAh rfl rfl) ?_;refine bE ?_;refine ge ?_;all_goals(first|rfl|(simp[h1,H];done))
def zdM(a b:Int)(N:Uq a)(K:Uq b):Fn prog 98 [tmA (tq a),tmA (tq b)] (.bool (decide (a<b))):=by
 refine bB func98 ntmps98 (λg w d=>?_);refine gc (zzx N K) ?_;all_goals(exact jA AV.bool (zIh N K))
def zj5(u:Int)(h:2<=u)(hu:Uq u):Fn prog 177 [tmA (tq u)] (.tup [mdA (lgV u),tmA (tq (vuM (lgV u))),.bool true]):=by
 have hL:[true,false].length=2:=rfl;refine bB func177 ntmps177 (λg w d=>?_);apply yc;refine zl ?_;iterate 2 refine yP ?_
 refine yk ?_;apply ye;apply yc;refine yk ?_;apply kX;refine zag (ι:=Nat×Md×Tm) [1,2,3,4] (λ(p:Nat×Md×Tm)zz=>(5,iv (6-(p.1:Int)))::zz) [1] (λ(p:Nat×Md×Tm)zz=>(2,.box (mdE p.2.1) 165)::(3,.box (tmE p.2.2) 35)::zz) (λ(p:Nat×Md×Tm)=>p.1<=10/\∀i<2*p.1,∀y,lgL[i]? =some y->u<vu y.1 y.2) (λ(p:Nat×Md×Tm)=>20-p.1) (0,⟨0,false,false⟩,⟨0,0⟩) (λp hk=>?_) (hJ:=by exact⟨ah,λi hi=>by simp at hi⟩);obtain⟨k,m,t⟩:=p;dsimp only at*
 obtain⟨x1,K⟩:=hk;have H:k<10:=jY λhc=>zDg h λi hi=>K i aa
 refine gd ?_ ?_<;>intro G
 ·refine gq ?_;refine yH zak [true,false] ?_;refine yY (kY (k:=12) rfl) ?_;refine yC ?_;apply kX;refine zag (ι:=Nat×Md×Tm) [1,2,3,4,5,12,13] (λ(p:Nat×Md×Tm)zz=>(14,iv (p.1:Int))::zz) [1] (λ(p:Nat×Md×Tm)zz=>(2,.box (mdE p.2.1) 165)::(3,.box (tmE p.2.2) 35)::zz) (λ(p:Nat×Md×Tm)=>p.1<=2/\∀i<2*k+p.1,∀y,lgL[i]? =some y->u<vu y.1 y.2) (λ(p:Nat×Md×Tm)=>2-p.1) (0,m,t) (λp hk=>?_) (hJ:=by exact⟨ah,K⟩);obtain⟨j,m2,t2⟩:=p;dsimp only at*
  obtain⟨x0,N⟩:=hk;refine gd ?_ ?_<;>intro w2
  ·obtain⟨b,hb,xT⟩:∃b,[true,false][j]? =some b/\j=(bif b then 0 else 1):=by
    have:j=0\/j=1:=aa
    rcases this with e|e<;>subst e
    ·exact⟨true,rfl,rfl⟩
    ·exact⟨false,rfl,rfl⟩
   have v9:[true,false][(j:Int).toNat]? =some b:=ao hb
   have hx:=zDe b H;rw[←xT]at hx;refine gc (zhy (6-(k:Int)) b aa) ?_;refine gc (zdM u (vu (6-(k:Int)) b) hu (zsv b aa)) ?_;refine gd ?_ ?_<;>intro v8
   ·have hV:=zDf hx N (by show vu (6-(k:Int)) b<=u;omega);refine gq ?_;refine bJ (.many ac (.cons (.cellA rfl rfl rfl rfl zb3 (kZ ?_)) (.cons (.cellA rfl rfl rfl rfl ty35 (kZ ?_)) (.cons (.tmp rfl (kZ ?_)) .nil))));all_goals(first|exact zE hV|rfl)
   have x2:=zIi hx N (by show u<vu (6-(k:Int)) b;omega);refine gq ?_;refine yr ((j+1,⟨6-(k:Int),b,false⟩,tq (vu (6-(k:Int)) b))) (hJ:=by exact⟨by show j+1<=2;omega,x2⟩) (hm:=by(show 2-(j+1)<2-j;omega)) (hI:=kW)
  ·refine gq ?_;refine yr ((k+1,m2,t2)) (hJ:=by exact⟨by show k+1<=10;omega,λi hi=>N i aa⟩) (hm:=by(show 20-(k+1)<20-k;omega)) (hI:=kW)
 ·exact absurd G aa
end
end Go.Rse
namespace Go.Rse
open Go Go.RowKit Go.Proofs.Tryz
variable{C:Ctx}{s:Nat}{st:St}{α:Type}{enc:α->List AV}{l:List α}
def optE(s:Nat)(enc:α->List AV):Option α->List AV
 |some x=>enc x
 |none=>List.replicate s .any
def zep(he:∀z,(enc z).length=s):∀z,(optE s enc z).length=s
 |some x=>he x
 |none=>vA
section
variable{P:Program}{C:Ctx}{st:St}{ty:TypeId}{Q:Exit->St->Prop}
variable{A:Option Addr}{E:TypeId}{a:Act}{ag:Bool}{c:Nat}{dst:Option Tmp}{g:Gh}{k kh n:Nat}{p:Int}{s:Nat}{t:TypeId}{w:World}{x y:Operand}{α:Type}{enc:α->List AV}{l:List α}
def zz4{c:Code}{E:Nat}(k kh:Nat)(hk:lk st.h k=some (.row enc l E s))(h:∀A n,l.length<=n->n<=maxLen->X P C c ⟨st.t,(kh,.hold [.slice A l.length n] [.own k])::st.h⟩ Q):X P C c st Q:=λg a w hr=>by
 obtain⟨xs,hw,h1,h2,h3⟩:=hr.sat.blk k _ hk;rcases hw.2 with⟨e,h0⟩|⟨b,cap,cur,e,_,hh,H,G,xT,x2⟩
 ·refine h none 0 aa (jU _) g a w (hr.withBlk (k:=kh) (B:=.hold [.slice none l.length 0] [.own k]) ⟨rfl,λj c' v N K=>?_⟩);cases j with
  |zero=>simp at N K;subst N;subst K;exact .own k _ _ _ (by rw[e,h0])
  |succ j=>simp at N
 ·refine h _ cap H G g a w (hr.withBlk (k:=kh) (B:=.hold [.slice (some ⟨b,0,none⟩) l.length cap] [.own k]) ⟨rfl,λj c' v N K=>?_⟩);cases j with
  |zero=>simp at N K;subst N;subst K;exact .own k _ _ _ e
  |succ j=>simp at N
def zeq(hr:Rel C st g a w)(N:lk st.h kh=some (.hold [.slice A n c] [.own k])):g.ρ k=.slice A n c:=by
 obtain⟨_,K⟩:=hr.sat.blk kh _ N;exact(zn (K 0 _ _ rfl rfl))
def zz5(hx:ev st x=some (.own k))(N:lk st.h kh=some (.hold [.slice A n c] [.own k]))(h:slOk P t E=true):
 Pur P C (.call {callee:=.builtin .cap,args:= #[x],argTypes:= #[t]}) ty st (.int .i64 c):=λg a w dst pos af gd hr=>
 ⟨.int .i64 c,by
  have e:=(zn (yq hr hx)).symm.trans (zeq hr N);simp[execOp,resolve,invoke,builtin,Builtin.cap_,e,run_underlying (yS h)];rfl,.int _ _⟩
def zsw(hx:ev st x=some (.own k))(N:lk st.h kh=some (.hold [.slice A n c] [.own k]))(K:ev st y=some (.int .i64 0))(ht:slOk P t E=true)(hE:tyOk P E ag s=true):
 Pur P C (.slice t x none (some y) none) ty st (.val (.slice A 0 c)):=λg a w dst pos af gd hr=>by
 have ex:=(zn (yq hr hx)).symm.trans (zeq hr N);have ey:=yK (yq hr K)
 have H:(Instr.sliceBounds true n c none (some (.int .i64 0)) none).run P w=.ok (0,0,c) w:=by
  rfl
 refine⟨_,?_,.val _⟩
 have hm:(if c=0 then A else Option.map (λx=>x.add 0) A)=A:=by
  simp[zki]
 simp[execOp,Instr.sliceAt,Instr.slice,run_underlying (yS ht),ex,ey,H,yJ hE,hm]
def zsx{α:Type}(enc:α->List AV){t tn E:TypeId}{z:Value}{s bytes n k c:Nat}{A:Option Addr}{kn:IntKind}{x y:Operand}{p:Int}(ht:slOk P t E=true)(H:P.underlying tn=some (.int kn))(hi:y7 P E z s bytes)(hs:0<s)(G:bytes<=1024)
 (hx:ev st x=some (.val (.slice A 0 c)))(hy:ev st y=some (.int .i64 p))(hp:p=(n:Int))(hc:c<n)(hn:n<=4000000000):yy P C (.call {callee:=.builtin .append,args:= #[x,y],argTypes:= #[t,tn]}) ty st (.own k) (some (k,.row (optE s enc) (List.replicate n none) E s)):=
 zM λg a w dst pos af gd hr=>by
  obtain⟨i,xT,x2,v5,x1,N⟩:=hi;subst hp;have hu:=yS ht;have ex:=zac (yq hr hx);have ey:=yK (yq hr hy)
  have v4:n*bytes<=140737488355328:=by
   have:n*bytes<=4000000000*1024:=kG hn G;omega
  have x0:0+n<=maxLen:=by simp only[maxLen];omega
  have v3:=grownCap_ge w (0+n) c E;have w2:=grownCap_le_maxLen w (0+n) c E x0
  have v9:(Builtin.firstCells i.size 0 (.slice A 0 c)).run P w.drew=.ok ([]:List Value).toArray w.drew:=by
   cases A with
   |none=>rfl
   |some b=>grind[run_firstCells_some]
  have v2:=Go.Lib.run_append_grow_zeros (P:=P) w t tn ty E i z .i64 kn hu H xT x2 A 0 c [] v9 n aa aa aa aa (by rw[x1];omega) (growslice_fits aa ak);have hg:Grow w (w.drew.alloc (.cells (([]:List Value).toArray++Builtin.zeroCells z.cells n++Builtin.zeroCells z.cells (grownCap w (0+n) c E-(0+n))) E)):=(Grow.drew w).trans (c9 _ _)
  have v8:∀(i:Nat)x,(List.replicate n (none:Option α))[i]? =some x->(optE s enc x).length=s:=λi x hx=>by
   grind[optE]
  refine⟨.slice (some ⟨w.heap.size,0,none⟩) (0+n) (grownCap w (0+n) c E),_,g.nw C.d w.heap.size k (.slice (some ⟨w.heap.size,0,none⟩) (0+n) (grownCap w (0+n) c E)),?_,Add.nw hg C.d k _,.own k _ _ _ (by simp[Gh.nw]),ImOB.nw ⟨hr.sat.im,hr.sat.ob⟩ hg ah C.d k _,λk' B hB=>?_⟩
  ·simp_all[execOp,resolve,invoke,builtin]
  ·injection hB with hB;injection hB with e1 e2;subst e1;subst e2;refine⟨(Builtin.zeroCells z.cells n).toList,?_,v8,λj x q c v hx hc hv=>?_,λb K=>?_⟩
   ·simp only[Gh.nw,if_true,vA];refine⟨by simp_all[size_zeroCells],.inr ⟨w.heap.size,_,_,ah,jU _,heap_alloc_new w.drew _,aa,w2,?_,?_⟩⟩
    ·simp only[Array.size_append,size_zeroCells,N,List.size_toArray,uM,u6];rw[←Nat.add_mul];simp_all
    simp[size_zeroCells,N]
   ·have:=vZ (j6 hx);subst this;have:c=.any:=vZ (j6 hc);subst this;exact .any _
   ·simp only[Gh.nw,if_true,yT]at K;injection K with K;subst K;exact⟨by simp[Gh.nw],.inl hr.ext.size⟩
def zz6{m:Nat}(hx:ev st x=some (.own k))(hk:lk st.h k=some (.row enc l E s))(hh:lk st.h kh=some (.hold [.slice A l.length c] [.own k]))(hy:ev st y=some (.int .i64 p))(hp:p=(m:Int))(ht:slOk P t E=true)(hE:tyOk P E ag s=true)
 (he:∀z,(enc z).length=s)(x1:l.length<=m)(G:m<=c)(v8:0<l.length)(hd:dOk C.n dst=true):
 yu P C (.slice t x none (some y) none) ty dst st {t:=consT dst (.own k) (clT k st.t),h:=(k,.row (optE s enc) (l.map some++List.replicate (m-l.length) none) E s)::clH k st.h}:=λg a w pos af gd hr K hK=>by
 subst hp;obtain⟨xs,hw,h1,h2,h3⟩:=hr.sat.blk k _ hk;have ek:=zn (yq hr hx);have er:=zeq hr hh;have ey:=yK (yq hr hy);rcases hw.2 with⟨_,h0⟩|⟨b,cap,cur,e,_,hg,v5,x0,H,w2⟩
 ·omega
 rw[er]at e;injection e with e1 _ e3;subst e1;subst e3
 have hb:(Instr.sliceBounds true l.length c none (some (.int .i64 (m:Int))) none).run P w=.ok (0,m,c) w:=by
  simp[Instr.sliceBounds,Instr.sliceBound,asIntOf,G]
 have e0:(execOp a.eval {dst:=dst,op:=.slice t x none (some y) none,type:=ty,pos:=pos,after:=af,guard:=gd}).run P w=.ok (.value (.slice (some ⟨b,0,none⟩) m c)) w:=by
  rw[er]at ek;simp[execOp,Instr.sliceAt,Instr.slice,run_underlying (yS ht),←ek,ey,hb,yJ hE,zki]
 unfold wp1;rw[e0];have v4:=h3 b (by rw[er];rfl);refine hK _ w (g.mv C.d k (.slice (some ⟨b,0,none⟩) m c) none) ?_;have hO:(g.mv C.d k (.slice (some ⟨b,0,none⟩) m c) none).O=g.O:=by funext b';simp[Gh.mv]
 refine hr.modifyR (k:=k) (bo:=none) rfl (λn hn=>by simp[Gh.mv,hn]) (λb' _=>by rw[hO]) (λb' h=>by cases h) ⟨rfl,rfl,rfl,jG _,λ_ _ _=>rfl⟩ (jG _) (by rw[hO];exact hr.sat.ob) hd (.own k _ _ _ (by simp[Gh.mv])) ?_;have v3:=hw.1;refine⟨cur.toList.take (m*s),?_,λi z _=>zep he z,λi z j cc v N xT hv=>?_,λb' v2=>?_⟩
 ·have v1:m*s<=c*s:=jX s G;have e1:(l.map some++List.replicate (m-l.length) (none:Option α)).length=m:=aj
  rw[e1];refine⟨by rw[jO,xP,H];omega,.inr ⟨b,c,cur,by simp[Gh.mv],jU _,hg,G,x0,H,rfl⟩⟩
 ·by_cases x2:i<l.length
  ·rw[u5 (ao x2),j9]at N;cases hq:l[i]? with
   |none=>rw[hq]at N;cases N
   |some z0=>
    rw[hq]at N;injection N with N;subst N;have hj:j<s:=by rw[←he z0];exact(j5.1 xT).1
    have v9:i*s+j<l.length*s:=by
     have h2:(i+1)*s<=l.length*s:=jX s x2;have h3:(i+1)*s=i*s+s:=xL i s;omega
    have v0:l.length*s<=m*s:=jX s x1;refine h2 i z0 j cc v hq xT ?_;rw[←w2,w4,j7 v9];rw[w4,j7 aa]at hv;exact hv
  ·rw[wC aj]at N;have:=vZ (j6 N);subst this;have:cc=.any:=vZ (j6 xT);subst this;exact .any _
 simp_all[Gh.mv,yT]
def znZ{α β:Type}{enc:α->List AV}{enc2:β->List AV}{l:List α}{l2:List β}{f:FuncId}{fn:Func}{x y:Operand}{t E E2 tR:TypeId}{s s2 k k2 i m:Nat}{ts:Array TypeId}{ag:Bool}(hf:P.funcs[f]? =some fn)(N:(fn.name== "runtime.NumGoroutine")=false)(hb:fn.body.isNone=true)(hn:Extern.findNext fn=none)(x2:Extern.find fn=some (Extern.SlicesOverlaps.overlaps #[t,t] #[tR]))
 (hx:ev st x=some (.own k2))(x1:lk st.h k2=some (.row enc2 l2 E2 s2))(hy:ev st y=some (.sub k s i m))(hk:lk st.h k=some (.row enc l E s))(v8:k≠k2)(h0:m≠0)(h2:0<l2.length)(ht:slOk P t E=true)(hE:tyOk P E ag s=true)(hs:0<s)(hl:0<l.length):
 Pur P C (.call {callee:=.value (.func f),args:= #[x,y],argTypes:=ts}) ty st (.bool false):=λg a w dst pos af gd hr=>by
 obtain⟨xs,hw,r1,r2,r3⟩:=hr.sat.blk k _ hk;obtain⟨ys,x0,q1,q2,q3⟩:=hr.sat.blk k2 _ x1;have ek:=zn (yq hr hx);have G:=yq hr hy;rcases x0.2 with⟨_,e⟩|⟨b2,cap2,cur2,xT,_,K,_⟩
 ·omega
 rcases hw.2 with⟨_,e⟩|⟨b,cap,cur,hv,_,hh,v5,_,v9,_⟩
 ·omega
 have w2:b2≠b:=λe=>by
  subst e;have o1:=(q3 b2 (by rw[xT];rfl)).1;have o2:=(r3 b2 (by rw[hv];rfl)).1;simp_all
 generalize ey:a.eval y=vy at G;cases G with
 |sub _ _ _ _ c A hA=>
 obtain⟨b',H,rfl⟩:=hA h0;rw[hv]at H;simp[yT]at H;subst H;have v4:0<cap*s:=Nat.mul_pos aa hs;have v3:=Go.Lib.run_overlaps_apart (P:=P) w t tR E (yS ht) s (yJ hE) ⟨b2,0,none⟩ ⟨b,i*s,none⟩ l2.length cap2 m c w2 E2 E cur2.size cur.size (by simp[World.shape?,K]) (by simp[World.shape?,hh]) aa (by simp[World.frozen?,K]) (by simp[World.frozen?,K]);refine⟨.bool false,?_,.bool _⟩;have hc:=run_callFunc_extern (P:=P) hf N hb hn x2 #[.slice (some ⟨b2,0,none⟩) l2.length cap2,.slice (some ⟨b,i*s,none⟩) m c] w;rw[xT]at ek;have ef:a.eval (.func f)=.func (.func f) #[] #[]:=rfl;simp_all[execOp,resolve,invoke,Deferred.ofValue]
end
def zmT{β:Type}(enc':β->List AV)(l':List β)(k:Nat){E:Nat}(h:lk st.h k=some (.row enc l E s))(hl:l.map enc=l'.map enc'):Imp C st {t:=st.t,h:=(k,.row enc' l' E s)::st.h}:=λg a w hr=>by
 obtain⟨xs,h1,H,G,K⟩:=hr.sat.blk k _ h;have hn:l'.length=l.length:=by have:=jA List.length hl;simpa using this.symm
 have hg:∀(i:Nat)x',l'[i]? =some x'->∃x,l[i]? =some x/\enc x=enc' x':=λi x' hx=>by
  have:=jA (·[i]?) hl;simp only[j9,hx]at this;cases N:l[i]? with
  |none=>rw[N]at this;cases this
  |some x=>rw[N]at this;injection this with this;exact⟨x,rfl,this⟩
 refine⟨_,hr.withBlk (k:=k) (B:=.row enc' l' E s) ⟨xs,by rw[hn];exact h1,λi x hx=>?_,λi x j c v hx hc hv=>?_,K⟩⟩;all_goals grind
end Go.Rse
namespace Go.Rse
open Go Go.Proofs Go.Proofs.Tryz
section
variable{α:Type}{x:α}{l:List α}{n:Nat}
def zIj(m:Nat)(hm:m=n+1):(List.replicate (n+1) (none:Option α)).take (0:Int).toNat++[some x]++(List.replicate (n+1) none).drop ((0:Int).toNat+min 1 m)=some x::List.replicate n none:=by
 simp_all
def zIk(m:Nat)(hm:m=l.length):(some x::List.replicate l.length none).take (0+1:Int).toNat++l.map some++(some x::List.replicate l.length none).drop ((0+1:Int).toNat+m)=some x::l.map some:=by
 grind
def zIl(h:0<l.length)(m:Nat)(hm:m=l.length):(l.map some++List.replicate (l.length+1-l.length) none).take (0+1:Int).toNat++l.map some++(l.map some++List.replicate (l.length+1-l.length) none).drop ((0+1:Int).toNat+m)=(l.map some).take 1++l.map some:=by
 grind[List.drop_of_length_le]
def zIm(h:0<l.length)(m:Nat)(hm:m=l.length+1):((l.map some).take 1++l.map some).take (0:Int).toNat++[some x]++((l.map some).take 1++l.map some).drop ((0:Int).toNat+min 1 m)=some x::l.map some:=by
 grind
end
attribute [local irreducible] Pur yy yu Ex X Fn Imp LeV LeB FnO It yA
set_option maxRecDepth 9999 in
def zaY(l:List Md)(x:Md)(hl:l.length<=100):FnO prog 178 [.own 2000000,iv 0,.own 2000001] [(2000000,.row mdE (l) 165 3),(2000001,.row mdE ([x]) 165 3)] [] (.own 90) [(90,.row mdE (x::l) 165 3)]:=by
 have h1:(([x]:List Md).length:Int)=1:=rfl;refine bR [] func178 ntmps178 (λg w d vs=>?_);apply yc;refine ya ?_;apply yp;iterate 2 refine ya ?_
 refine yO (y8 rfl rfl rfl sl75 zb3 aa aa) rfl ?_;apply yp;refine ya ?_;refine ya (x:=iv 1) (hs:=by rw[←h1];exact zdq rfl rfl sl75) ?_;refine gd ?_ ?_<;>intro G
 ·cases G
 refine gd ?_ ?_<;>intro x2
 ·obtain rfl:l=[]:=jT aa;refine gq ?_;refine yX (zaZ rfl rfl rfl rfl sl75 zyo ac ac (λ_=>rfl) (λ_=>rfl) ah rfl) ?_;refine yk ?_;refine bC ?_;refine zI (bY 2000000 90 rfl rfl) ?_;refine zm4.mk (ts:=[(6,.own 90)]) (.inr rfl) (yh) (.one (.tmp rfl (kZ rfl)))
 apply yf;iterate 2 apply ye
 refine zz4 2000000 1000003 (by exact rfl) (λAd c G x2=>?_);apply yd;iterate 4 refine ya ?_
 refine ya (hs:=by exact zz5 (kh:=1000003) rfl rfl sl75) ?_;refine gd ?_ ?_<;>intro x1
 ·have v9:((some x::List.replicate l.length none):List (Option Md)).length=l.length+1:=ah
  have v8:(List.replicate (l.length+1) (none:Option Md)).length=l.length+1:=ah
  have v5:=zIj (x:=x) (n:=l.length) ((List.replicate (l.length+1) (none:Option Md)).length-(0:Int).toNat) ah;have v4:=zIk (x:=x) (l:=l) (min (l.length-(0:Int).toNat) (((some x::List.replicate l.length none):List (Option Md)).length-(0+1:Int).toNat)) ah;apply yc;iterate 2 refine ya ?_
  refine ya (hs:=by exact zsw (kh:=1000003) rfl rfl rfl sl75 zb3) ?_;refine gq ?_;refine bP (zsx (k:=90) (n:=l.length+1) mdE sl75 Tryz.underlying3 zyo ac ac rfl rfl aa aa aa) rfl rfl ?_;refine ya ?_;apply yp;iterate 2 refine ya ?_
  refine yO (y8 rfl rfl rfl sl75 zb3 aa aa) rfl ?_;refine gq ?_;refine yX (zdv [some x] rfl rfl (.inr ⟨rfl,rfl⟩) rfl (by simp[optE]) (zep λ_=>rfl) ac (λz N=>by simp at N;(first|(obtain⟨_,_,rfl⟩:=N;rfl)|(subst N;rfl))) (by simp;try omega) (by simp;try omega) sl75 zb3 rfl) ?_;apply bD;apply ye;refine zY [⟨0,46,.own 90,[]⟩,⟨1,47,iv 0,[]⟩,⟨2,48,iv 1,[]⟩,⟨3,49,iv (0+1),[2,1]⟩,⟨4,50,.sub 90 3 (0+1:Int).toNat ((some x::List.replicate l.length none).length-(0+1:Int).toNat),[2,1,3,0]⟩,⟨5,51,.own 2000000,[]⟩,⟨6,52,iv 0,[]⟩,⟨7,53,.sub 2000000 3 (0:Int).toNat (l.length-(0:Int).toNat),[6,5]⟩] [(8,[2,1,6,5,3,0,7,4])] (λj=>match j with|0=>⟨[(1,iv 0),(7,iv 1),(0,.own 2000000),(9,.own 90)],[(1000001,.hold vs []),(90,.row (optE 3 mdE) ((some x::List.replicate l.length none)) 165 3),(2000000,.row mdE (l) 165 3)]⟩|_=>⟨[(9,.own 90)],[(1000001,.hold vs []),(90,.row (optE 3 mdE) (some x::l.map some) 165 3)]⟩) mo (zP (yh)) (λj hj=>?_) ⟨λβ=>Co2 rfl (zdv (l.map some) rfl rfl (.inl rfl) rfl (by simp[optE]) (zep λ_=>rfl) ac (λz N=>by simp at N;(first|(obtain⟨_,_,rfl⟩:=N;rfl)|(subst N;rfl))) (by simp;try omega) (by simp;try omega) sl75 zb3 rfl),trivial⟩ ?_
  ·rcases j with _|_|j
   ·(iterate 4 refine⟨.inr ⟨_,rfl,rfl,rfl,rfl,bA yU⟩,?_⟩);refine⟨.inr ⟨_,rfl,rfl,rfl,rfl,bA (y8 rfl rfl rfl sl75 zb3 aa aa)⟩,?_⟩;(iterate 2 refine⟨.inr ⟨_,rfl,rfl,rfl,rfl,bA yU⟩,?_⟩);refine⟨.inr ⟨_,rfl,rfl,rfl,rfl,bA (y8 rfl rfl rfl sl75 zb3 aa aa)⟩,?_⟩;exact True.intro
   ·exact yE
   ·exact absurd (show j+2<=1 from hj) aa
  apply yc;refine yC ?_;refine bC ?_;refine zI (zmT mdE (x::l) 90 (by exact rfl) (by simp[optE])) ?_;refine zm4.mk (ts:=[(6,.own 90)]) (.inr rfl) (yh) (.one (.tmp rfl (kZ rfl)))
 have K:((l.map some++List.replicate (l.length+1-l.length) none):List (Option Md)).length=l.length+1:=ah
 have xT:((l.map some).take 1++l.map some:List (Option Md)).length=l.length+1:=aj
 have x1:=zIl (l:=l) aa (min (((l.map some++List.replicate (l.length+1-l.length) none):List (Option Md)).length-(0:Int).toNat) (((l.map some++List.replicate (l.length+1-l.length) none):List (Option Md)).length-(0+1:Int).toNat)) (by rw[K];simp);have x0:=zIm (x:=x) (l:=l) aa (((l.map some).take 1++l.map some:List (Option Md)).length-(0:Int).toNat) (by rw[xT];simp);refine gq ?_;refine yX (zz6 (kh:=1000003) (m:=l.length+1) rfl rfl rfl rfl aa sl75 zb3 (λ_=>rfl) aa aa aa rfl) ?_;refine yk ?_;apply ye;apply yc;iterate 5 refine ya ?_
 refine yO (y8 rfl rfl rfl sl75 zb3 aa aa) rfl ?_;refine ya (hs:=by exact znZ (tR:=4) func215 ae ae ae ae rfl rfl rfl rfl ac (by rw[K];show l.length+1-1≠0;omega) Nat.one_pos sl75 zb3 ac (by rw[K];omega)) ?_;refine gd ?_ ?_<;>intro w2
 ·apply ye;refine zY [⟨0,69,.own 2000000,[]⟩,⟨1,70,iv 0,[]⟩,⟨2,71,iv 1,[]⟩,⟨3,72,iv (0+1),[2,1]⟩,⟨4,73,.sub 2000000 3 (0+1:Int).toNat ((l.map some++List.replicate (l.length+1-l.length) none).length-(0+1:Int).toNat),[2,1,3,0]⟩,⟨5,74,.own 2000000,[]⟩,⟨6,75,iv 0,[]⟩,⟨7,76,.sub 2000000 3 (0:Int).toNat ((l.map some++List.replicate (l.length+1-l.length) none).length-(0:Int).toNat),[6,5]⟩] [(8,[2,1,6,5,3,0,7,4])] (let T:=[(1,iv 0),(2,.own 2000001),(0,.own 2000000)];let H:=[(1000001,.hold vs []),(2000001,.row mdE ([x]) 165 3)];λj=>match j with|0=>⟨(7,iv 1)::T,(2000000,.row (optE 3 mdE) ((l.map some++List.replicate (l.length+1-l.length) none)) 165 3)::H⟩|_=>⟨T,(2000000,.row (optE 3 mdE) ((l.map some).take 1++l.map some) 165 3)::H⟩) mo (zP (yh)) (λj hj=>?_) ⟨λβ=>Co2 rfl (zdv (l.map some) rfl rfl (.inl rfl) rfl (by simp[optE]) (zep λ_=>rfl) ac (λz N=>by simp at N;(first|(obtain⟨_,_,rfl⟩:=N;rfl)|(subst N;rfl))) (by simp;try omega) (by simp;try omega) sl75 zb3 rfl),trivial⟩ ?_
  ·rcases j with _|_|j
   ·(iterate 4 refine⟨.inr ⟨_,rfl,rfl,rfl,rfl,bA yU⟩,?_⟩);refine⟨.inr ⟨_,rfl,rfl,rfl,rfl,bA (y8 rfl rfl rfl sl75 zb3 aa aa)⟩,?_⟩;(iterate 2 refine⟨.inr ⟨_,rfl,rfl,rfl,rfl,bA yU⟩,?_⟩);refine⟨.inr ⟨_,rfl,rfl,rfl,rfl,bA (y8 rfl rfl rfl sl75 zb3 aa aa)⟩,?_⟩;exact True.intro
   ·exact yE
   ·exact absurd (show j+2<=1 from hj) aa
  apply yc;iterate 2 refine ya ?_
  refine yO (y8 rfl rfl rfl sl75 zb3 aa aa) rfl ?_;refine gq ?_;refine yX (zdv [some x] rfl rfl (.inr ⟨rfl,rfl⟩) rfl (by rw[xT];simp[optE]) (zep λ_=>rfl) ac (λz N=>by simp at N;(first|(obtain⟨_,_,rfl⟩:=N;rfl)|(subst N;rfl))) (by simp;try omega) (by simp;try omega) sl75 zb3 rfl) ?_;apply yp;refine yC ?_;refine bC ?_;refine zI (zmT mdE (x::l) 2000000 (by exact rfl) (by refine Eq.trans (jA (List.map (optE 3 mdE)) x0) ?_;simp[optE])) ?_;refine zI (bY 2000000 90 (by exact rfl) rfl) ?_;refine zm4.mk (ts:=[(6,.own 90)]) (.inr rfl) (yh) (.one (.tmp rfl (kZ rfl)))
 cases w2
end Go.Rse
