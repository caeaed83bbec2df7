/-
  The logic: parts Rse13, Rse14, Rse15, Rse16, Rse17, Rse18, Rse19, Rse20.
  A scope that is gone through without a goto.
  The logic: parts Rse24, Rse25, Rse26, Rse27.
  A guarded operation whose guard is known to hold.
  The logic: drawn regions of which some operations lay memory that stays; parts of lists.
  Rules: a middle part of an immutable list; the greater and the smaller of two numbers.
  Rules: values of interface types, panics, calls that panic, a deferred closure that recovers.
-/
import Derived.Test.YtpapdhoblekoeaaGreatDoorZLogA
import Derived.RangeFuncNested
import Derived.Laws.Cover3
import Derived.Scope
import Derived.Laws.OwnMore
import Derived.RecoverIn
set_option linter.all false
namespace Go.Rse
open Go Go.RowKit
variable{H:List Nat->Im->Owns->World->Prop}{N:Nat->Prop}{P:Program}{c:Code}{f:FuncId}{fn:Func}{g:Gh}{k:Nat}
structure Chg(ds:List Nat)(I:Im)(O:Owns)(w:World)(I':Im)(O':Owns)(w':World):Prop where
 I:Im.le I I'
 os:w'.os=w.os
 tape:w'.tape=w.tape
 output:w'.output=w.output
 drawn:w.drawn<=w'.drawn
 size:w.heap.size<=w'.heap.size
 keep:∀b,b<w.heap.size->(¬∃y n,y∈ds/\O b=some (y,n))->w'.heap[b]? =w.heap[b]? /\O' b=O b
 own:∀b y n,b<w.heap.size->O' b=some (y,n)->∃n',O b=some (y,n')
def zaJ(P:Program)(l:Nat)(ds:List Nat)(Y:Nat->Bool->Im->Owns->World->Prop)(X:Nat->List AV->Prop):Prop:=
 ∀(j:Nat)(as:List AV),X j as->∀(I:Im)(O:Owns)(w:World)(args:List Value),Y j true I O w->ImO I O w->RVL I noNames as args→
  ∃fn tmps assign body w1,(Instr.yield l args.toArray).run P w=.ok (.round l fn tmps assign body) w1∧
   RoundIn Fence.wide 0 P l fn tmps assign body w1 λe w'=>∃b I' O',e=.returned (.bool b)/\Y (bif b then j+1 else j) b I' O' w'/\ImO I' O' w'/\Chg ds I O w I' O' w'
def yA(P:Program)(l:Nat)(ds:List Nat)(Y:Nat->Bool->Im->Owns->World->Prop)(xs:List (List AV)):Prop:=zaJ P l ds Y λj as=>xs[j]? =some as
def ItX(P:Program)(f:FuncId)(caps:List AV)(X:Nat->List AV->Prop)(N:Nat->Prop)(H:List Nat->Im->Owns->World->Prop):Prop:=
 zy P f=true/\∀(ds:List Nat)(l:Nat)(Y:Nat->Bool->Im->Owns->World->Prop)(I:Im)(O:Owns)(w:World)(us:List Value),ImO I O w->RVL I noNames caps us→
  H ds I O w->YCl Y ds w.heap.size->Y 0 true I O w->zaJ P l ds Y X→
  Calls P f (Value.func (.yield l) #[] #[]::us).toArray w λe w'=>∃v j on I' O',e=.returned v/\(on=true->N j)/\Y j on I' O' w'/\ImO I' O' w'/\Chg ds I O w I' O' w'
def It(P:Program)(f:FuncId)(caps:List AV)(xs:List (List AV)):Prop:=ItX P f caps (λj as=>xs[j]? =some as) (· =xs.length) λ_ _ _ _=>True
abbrev yN:Nat:=1000000
def yM.chg{C:Ctx}{w:World}{I':Im}{O':Owns}{w':World}{B:Blk}(h:yM C g w k B)(hy:∀j on,B≠.yld j on)(hd:C.d∉C.ds)(hc:Chg C.ds g.I g.O w I' O' w'):yM C ⟨g.ρ,I',O'⟩ w' k B:=by
 have hk:∀b n,b<w.heap.size->g.O b=some (C.d,n)->w'.heap[b]? =w.heap[b]? /\O' b=g.O b:=λb n hb hO=>hc.keep b hb (λ⟨y,m,hy,hm⟩=>by
  simp_all)
 cases B with
 |box cs E=>
  obtain⟨b,vs,h1,h2,h3,h4,h5,h6⟩:=h;obtain⟨e1,e2⟩:=hk b k (zb h4) h2;exact⟨b,vs,h1,e2.trans h2,h3,e1.trans h4,h5,λj c v G hv=>(h6 j c v G hv).mono hc.I⟩
 |row enc l E s=>
  obtain⟨xs,h1,h2,h3,h4⟩:=h;refine⟨xs,?_,h2,λi x j c v hx G hv=>(h3 i x j c v hx G hv).mono hc.I,λb hb=>?_⟩
  ·obtain⟨p1,p2⟩:=h1;refine⟨p1,?_⟩;rcases p2 with p2|⟨b,cap,cur,hv,hb,hh,r⟩
   ·exact .inl p2
   ·have:=h4 b (by rw[hv];rfl);exact .inr ⟨b,cap,cur,hv,hb,(hk b k (zb hh) this.1).1.trans hh,r⟩
  grind[zbR]
 |hold vs cs=>exact⟨h.1,λj c v G hv=>(h.2 j c v G hv).mono hc.I⟩
 |obj b o=>
  grind[yM]
 |yld j on=>simp_all
 |mpb kenc venc l=>
  obtain⟨b,es,ck,h1,h2,h3,h4,h5,h6⟩:=h;obtain⟨e1,e2⟩:=hk b k (zb h4) h2;exact⟨b,es,ck,h1,e2.trans h2,h3,e1.trans h4,h5,λi e p he hp=>⟨(h6 i e p he hp).1.mono hc.I,(h6 i e p he hp).2.mono hc.I⟩⟩
 |dead=>trivial
def Dfs.chg{C:Ctx}{w:World}{I':Im}{O':Owns}{w':World}{ds:List Deferred}(h:Dfs C g ds w)(G:Chg C.ds g.I g.O w I' O' w'):Dfs C ⟨g.ρ,I',O'⟩ ds w':=by
 obtain⟨D,h1,hn,h2⟩:=h;refine⟨D,h1,hn,λr hr=>?_⟩;obtain⟨h3,h4,h5⟩:=h2 r hr;obtain⟨e1,e2⟩:=G.keep r (zb h3) (λ⟨y,n,_,hm⟩=>by rw[h4]at hm;simp at hm);simp_all
def Ext.chg{C:Ctx}{w:World}{I':Im}{O':Owns}{w':World}(h:Ext C g w)(G:Chg C.ds g.I g.O w I' O' w'):Ext C ⟨g.ρ,I',O'⟩ w':=
 ⟨Im.le_trans h.I G.I,G.os.trans h.os,G.tape.trans h.tape,G.output.trans h.output,jV h.drawn G.drawn,jV h.size G.size,
  λb hb hn ho=>by
   obtain⟨h1,h2⟩:=h.keep b hb hn ho;obtain⟨e1,e2⟩:=G.keep b (w7 hb h.size) (λ⟨y,n,hy,hm⟩=>ho ⟨y,n,hy,by rw[←h2];exact hm⟩);simp_all,
  λb y n hb hy=>by
   obtain⟨n',xT⟩:=G.own b y n (w7 hb h.size) hy;exact h.own b y n' hb xT⟩
def yOk:List (Nat×Blk)->Bool
 |[]=>true
 |(k,.yld _ _)::r=>k.beq yN&&yOk r
 |(k,_)::r=>!(k.beq yN)&&yOk r
def zsY:∀{h:List (Nat×Blk)},yOk h=true->∀{k:Nat}{B:Blk},k≠yN->lk h k=some B->∀j on,B≠.yld j on
 |[],_,_,_,_,e,_,_=>by simp[lk]at e
 |(k',B')::r,h,k,B,hk,e,j,on=>by
  simp only[ym]at e;have hr:yOk r=true:=by cases B'<;>simp[yOk]at h<;>exact h.2
  cases G:k'.beq k<;>simp[G]at e
  ·exact zsY hr hk e j on
  ·have:k'=k:=ao G
   subst this;subst e;cases B'<;>first|(simp;done)|simp_all[yOk]
def zmZ{C:Ctx}{st:St}{g:Gh}{a:Act}{w:World}{args:Array Operand}:(args.toList.map a.eval).toArray=args.map a.eval:=by grind
def zm0{P:Program}{C:Ctx}{st:St}{ty:TypeId}{l:Nat}{X:Nat->List AV->Prop}(hY:zaJ P l C.ds C.Y X){fop:Operand}{args:Array Operand}{ts:Array TypeId}{j:Nat}{ys as:List AV}(hf:ev st fop=some (.yv l))(hx:evs st args.toList=some ys)
 (hn:AV.nm.nmL ys=true)(v9:LeL ys as)(hj:lk st.h yN=some (.yld j true))(v8:yOk st.h=true)(v5:X j as){dst:Option Tmp}(hd:dOk C.n dst=true){g:Gh}{a:Act}{w:World}(pos:String)(af:Array Edge)(gd:Option (Nat×Bool))(hr:Rel C st g a w){K:Act->World->Prop}
 (hK:∀(b:Bool)a' w' g',Rel C ⟨consT dst (.bool b) st.t,(yN,.yld (bif b then j+1 else j) b)::st.h⟩ g' a' w'->K a' w'):
 wp1 P {dst:=dst,op:=.call {callee:=.value fop,args:=args,argTypes:=ts},type:=ty,pos:=pos,after:=af,guard:=gd} a w K:=by
 have e:a.eval fop=.func (.yield l) #[] #[]:=by
  have:=yq hr hf;generalize a.eval fop=v at this;cases this;rfl
 have x1:RVL g.I noNames as (args.toList.map a.eval):=v9.rvl ((zdP hr hx).forget hn);obtain⟨x0,v4,v3,v2,v1⟩:=hr.sat.blk yN _ hj;obtain⟨fn,tmps,assign,body,w1,w2,G⟩:=hY j as v5 g.I g.O w _ v1 ⟨hr.sat.im,hr.sat.ob⟩ x1;rw[zmZ (C:=C) (st:=st) (g:=g) (w:=w)]at w2
 have e2:(execOp a.eval {dst:=dst,op:=.call {callee:=.value fop,args:=args,argTypes:=ts},type:=ty,pos:=pos,after:=af,guard:=gd}).run P w=.ok (.round l fn tmps assign body) w1:=by
  simp_all[execOp,resolve,Deferred.ofValue,invoke]
 unfold wp1;rw[e2];refine RoundIn.mono G ?_
 rintro e w'⟨b,I',O',rfl,v0,xT,hc⟩
 refine⟨.bool b,rfl,?_⟩
 have x2:Sat C ((yN,.yld (bif b then j+1 else j) b)::st.h) ⟨g.ρ,I',O'⟩ w':=⟨xT.1,xT.2,λk B hB=>by
  simp only[ym]at hB;cases hb:yN.beq k<;>simp[hb]at hB
  ·exact(hr.sat.blk k B hB).chg (zsY v8 (λe=>by subst e;simp at hb) hB) x0 hc
  ·have:yN=k:=ao hb
   subst hB;refine⟨x0,v4,v3,λb' n k9=>?_,v0⟩;rcases wH b' w.heap.size with hl|hl
   ·obtain⟨n',k8⟩:=hc.own b' C.d n hl k9;exact v2 b' n' k8
   ·have:=hr.ext.size;omega⟩
 have k7:∀t x,lk st.t t=some x->RV I' g.ρ x (a.tmps.getD t undef):=λt x hx=>(hr.tmps t x hx).mono hc.I
 refine hK b (a.put dst (.bool b)) w' ⟨g.ρ,I',O'⟩ ?_;cases dst with
 |none=>exact⟨hr.size,hr.defers.chg hc,k7,x2,hr.ext.chg hc⟩
 |some d=>
  refine⟨by simp[Act.put,hr.size],hr.defers.chg hc,λt x hx=>?_,x2,hr.ext.chg hc⟩;rw[zaS (by rw[hr.size];simpa[dOk]using hd)];simp only[consT,ym]at hx;by_cases e:d=t
  ·subst e;simp at hx;rw[j7 rfl,←hx];exact .bool b
  grind[beqF]
def zhk{P:Program}{C:Ctx}{ops:Array Oper}{st:St}{Q:Exit->St->Prop}{rest:List Oper}{ty:TypeId}{pos:String}{af:Array Edge}{l:Nat}{X:Nat->List AV->Prop}(hY:zaJ P l C.ds C.Y X){fop:Operand}{args:Array Operand}{ts:Array TypeId}{j:Nat}{ys as:List AV}{dst:Option Tmp}
 (hf:ev st fop=some (.yv l))(hx:evs st args.toList=some ys)(hn:AV.nm.nmL ys=true)(G:LeL ys as)(hj:lk st.h yN=some (.yld j true))(xT:yOk st.h=true)(x2:X j as)(hd:dOk C.n dst=true)
 (h:∀b:Bool,Ex P C ops rest ⟨consT dst (.bool b) st.t,(yN,.yld (bif b then j+1 else j) b)::st.h⟩ Q):
 Ex P C ops ({dst:=dst,op:=.call {callee:=.value fop,args:=args,argTypes:=ts},type:=ty,pos:=pos,after:=af,guard:=none}::rest) st Q:=λg a w hr=>
 wpListIn_plain rfl λK hK=>zaf<|zm0 hY hf hx hn G hj xT x2 hd pos af none hr λb a' w' g' h'=>hK _ _ (h b g' a' w' h')
def Ex.yield{P:Program}{C:Ctx}{ops:Array Oper}{st:St}{Q:Exit->St->Prop}{rest:List Oper}{ty:TypeId}{pos:String}{af:Array Edge}{l:Nat}{xs:List (List AV)}(hY:yA P l C.ds C.Y xs){fop:Operand}{args:Array Operand}{ts:Array TypeId}{j:Nat}{ys as:List AV}{dst:Option Tmp}
 (hf:ev st fop=some (.yv l))(hx:evs st args.toList=some ys)(hn:AV.nm.nmL ys=true)(G:LeL ys as)(hj:lk st.h yN=some (.yld j true))(xT:yOk st.h=true)(x2:xs[j]? =some as)(hd:dOk C.n dst=true)
 (h:∀b:Bool,Ex P C ops rest ⟨consT dst (.bool b) st.t,(yN,.yld (bif b then j+1 else j) b)::st.h⟩ Q):
 Ex P C ops ({dst:=dst,op:=.call {callee:=.value fop,args:=args,argTypes:=ts},type:=ty,pos:=pos,after:=af,guard:=none}::rest) st Q:=
 zhk (X:=λj as=>xs[j]? =some as) hY hf hx hn G hj xT x2 hd h
def zbT{P:Program}{C:Ctx}{ops:Array Oper}{st:St}{Q:Exit->St->Prop}{rest:List Oper}{ty:TypeId}{pos:String}{af:Array Edge}{l:Nat}{xs:List (List AV)}(hY:yA P l C.ds C.Y xs){fop:Operand}{args:Array Operand}{ts:Array TypeId}{j:Nat}{d i t:Nat}{want c:Bool}
 (hi:(ops[i]?).bind (·.dst)=some t)(hc:lk st.t t=some (.bool c))(hd:d.blt C.n=true)
 (xT:(c==want)=true->∃ys as,ev st fop=some (.yv l)/\evs st args.toList=some ys/\AV.nm.nmL ys=true/\LeL ys as/\lk st.h yN=some (.yld j true)/\yOk st.h=true/\xs[j]? =some as∧
  ∀b:Bool,Ex P C ops rest ⟨(d,.bool b)::st.t,(yN,.yld (bif b then j+1 else j) b)::st.h⟩ Q)
 (x2:(c==want)=false->Ex P C ops rest ⟨(d,.any)::st.t,st.h⟩ Q):
 Ex P C ops ({dst:=some d,op:=.call {callee:=.value fop,args:=args,argTypes:=ts},type:=ty,pos:=pos,after:=af,guard:=some (i,want)}::rest) st Q:=λg a w hr=>by
 have hy:yielded ops a.tmps i=some c:=by
  have:=z8 (hr.tmps t _ hc)
  have e:a.tmps[t]? =some (.bool c):=by
   simp only[jI]at this
   grind[undef]
  simp[yielded,hi,e]
 unfold wpListIn;cases hw:(c==want)with
 |true=>
  have G:Region.wanted {dst:=some d,op:=.call {callee:=.value fop,args:=args,argTypes:=ts},type:=ty,pos:=pos,after:=af,guard:=some (i,want)} (yielded ops a.tmps)=true:=by
   simp_all[Region.wanted]
  rw[j7 G];obtain⟨ys,as,h1,h2,h3,h4,h5,h6,h7,h8⟩:=xT hw;exact zaf (zm0 (X:=λj as=>xs[j]? =some as) hY h1 h2 h3 h4 h5 h6 h7 (dst:=some d) (by simpa[dOk]using hd) pos af _ hr λb a' w' g' h'=>h8 b g' a' w' h')
 |false=>
  have G:Region.wanted {dst:=some d,op:=.call {callee:=.value fop,args:=args,argTypes:=ts},type:=ty,pos:=pos,after:=af,guard:=some (i,want)} (yielded ops a.tmps)=false:=by
   simp_all[Region.wanted]
  rw[j8 (by rw[G];simp)];exact⟨λf _=>C.F_fn f,x2 hw g _ w (hr.addSt (d:=some d) (nb:=none) (Add.refl _ g w) (by simpa[dOk]using hd) rfl (.any _) hr.sat.im hr.sat.ob (λ_ _ h=>by cases h))⟩
def ItQX(N:Nat->Prop)(e:Exit)(st:St):Prop:=(e=.normal\/e=.ret)/\∃j on,lk st.h yN=some (.yld j on)/\(on=true->N j)
def ItQ(n:Nat)(e:Exit)(st:St):Prop:=(e=.normal\/e=.ret)/\∃j on,lk st.h yN=some (.yld j on)/\(on=true->j=n)
abbrev C1(n d:Nat)(ds:List Nat)(Y:Nat->Bool->Im->Owns->World->Prop)(g:Gh)(w:World):Ctx:=⟨none,n,d,ds,w.heap.size,Y,g,w,[]⟩
def ItX.intro{n:Nat}{caps:List AV}{ts:Nat->List (Nat×AV)}{X:Nat->List AV->Prop}(hc:zy P f=true)(hf:P.funcs[f]? =some fn)(hb:fn.body=some c)(hn:fn.ntmps=n)(v2:fn.results= #[])
 (v1:∀l,zaE 0 (.yv l::caps)=ts l)(w2:caps.length+1<=n)(h:∀g w d ds Y l,(∀b n,g.O b≠some (d,n))->H ds g.I g.O w->zaJ P l ds Y X->Go.Rse.X P (C1 n d ds Y g w) c ⟨ts l,[(yN,.yld 0 true)]⟩ (ItQX N)):ItX P f caps X N H:=by
 refine⟨hc,λds l Y I O w us v9 v8 hH v0 hY x1=>(callsIn_wide (n:=0)).1 (callsIn_of_wp_marks hf hb trivial ?_)⟩;obtain⟨d,hd,k9⟩:=zcI O w.heap.size ds v9.2.1;let C:=C1 n d ds Y ⟨noNames,I,O⟩ w
 have x0:RVL I noNames (.yv l::caps) (Value.func (.yield l) #[] #[]::us):=⟨by simp[v8.1],λj c v hc hv=>by
  cases j with
  |zero=>simp at hc hv;subst hc;subst hv;exact .yv l
  |succ j=>exact v8.2 j c v (ao hc) (ao hv)⟩
 have x2:=zeV (C:=C) (I:=I) (O:=O) (m:=fn.ntmps) rfl rfl hn (ao w2) v9 x0;rw[v1 l]at x2;have v5:=x2.withBlk (k:=yN) (B:=.yld 0 true) ⟨k9,v0,jG _,λb m hm=>absurd hm (hd b m),hY⟩;refine wpIn_mono (h _ w d ds Y l hd hH x1 _ _ w v5) ?_
 rintro e a w'⟨st,g1,xT,he,j,on,hj,k8⟩
 obtain⟨k7,k6,k5,k4,v4⟩:=xT.sat.blk yN _ hj
 have v3:LeavesInM Fence.wide 0 P fn a.tmps (λe w'=>∃v j on I' O',e=.returned v/\(on=true->N j)/\Y j on I' O' w'/\ImO I' O' w'/\Chg ds I O w I' O' w') a.defers .returning w':=by
  obtain⟨D,hD,k3,k2⟩:=xT.defers;refine zbq (C:=C) (r:=.tup []) (rv:=[]) (ao v2) (.many ah .nil) rfl (λg3 w3 v G hv=>?_) D hD.plain k3 k2 ⟨xT.size,Dfs.nil _ _ _,xT.tmps,xT.sat,xT.ext⟩;obtain⟨k7,k6,k5,k4,v4⟩:=G.sat.blk yN _ hj
  have j4:∀b,b<w.heap.size->¬C.okb b:=λb hb hk=>by
   rcases hk with hk|⟨m,hk⟩;all_goals grind
  exact⟨v,j,on,g3.I,g3.O,rfl,k8,v4,⟨G.sat.im,G.sat.ob⟩,⟨G.ext.I,G.ext.os,G.ext.tape,G.ext.output,G.ext.drawn,G.ext.size,λb hb j3=>G.ext.keep b hb (j4 b hb) j3,G.ext.own⟩⟩
 rcases he with rfl|rfl<;>exact v3
def It.intro{n:Nat}{caps:List AV}{ts:Nat->List (Nat×AV)}{xs:List (List AV)}(hc:zy P f=true)(hf:P.funcs[f]? =some fn)(hb:fn.body=some c)(hn:fn.ntmps=n)(xT:fn.results= #[])
 (x2:∀l,zaE 0 (.yv l::caps)=ts l)(G:caps.length+1<=n)(h:∀g w d ds Y l,yA P l ds Y xs->X P (C1 n d ds Y g w) c ⟨ts l,[(yN,.yld 0 true)]⟩ (ItQ xs.length)):It P f caps xs:=
 ItX.intro hc hf hb hn xT x2 G λg w d ds Y l _ _ hs=>h g w d ds Y l hs
end Go.Rse
namespace Go.Rse
open Go Go.RowKit
variable{B:Nat}{a:Act}{g g0:Gh}{k l:Nat}{o:Obj}{sl:List Nat}{st st0:St}{vs:List Value}{w w' w0:World}{ρ:Nat->Value}
abbrev Ctx.rnd(C:Ctx)(l:Nat)(g:Gh)(w:World):Ctx:=⟨some l,C.n,C.d,C.ds,C.yB,C.Y,g,w,[]⟩
def Ext.trans{C:Ctx}{g':Gh}(h:Ext C g w)(G:Ext (C.rnd l g w) g' w'):Ext C g' w':=
 ⟨Im.le_trans h.I G.I,G.os.trans h.os,G.tape.trans h.tape,G.output.trans h.output,jV h.drawn G.drawn,jV h.size G.size,λb hb hn ho=>by
  obtain⟨h1,h2⟩:=h.keep b hb hn ho;have xT:=w7 hb h.size
  obtain⟨h3,h4⟩:=G.keep b xT (λhk=>by
   rcases hk with hk|⟨n,hk⟩
   ·exact absurd hk (kH.2 xT)
   ·exact hn (.inr ⟨n,by rw[←h2];exact hk⟩)) (λ⟨y,n,hy,hm⟩=>ho ⟨y,n,hy,by rw[←h2];exact hm⟩)
  simp_all,
  λb y n hb hy=>by
   obtain⟨n',x2⟩:=G.own b y n (w7 hb h.size) hy;exact h.own b y n' hb x2⟩
def yM.into{C:Ctx}{B:Blk}(h:yM C g w k B)(G:∀b n,g.O b=some (C.d,n)->(C.rnd l g0 w0).okb b)(hs:C.yB<=C.w0.heap.size->C.yB<=w0.heap.size):yM (C.rnd l g0 w0) g w k B:=by
 cases B<;>grind[yM]
def yM.outof{C:Ctx}{B:Blk}(h:yM (C.rnd l g0 w0) g w k B)(G:∀b n,g.O b=some (C.d,n)->C.okb b)(hs:C.yB<=w0.heap.size->C.yB<=C.w0.heap.size):yM C g w k B:=by
 cases B<;>grind[yM]
theorem Ext.okb{C:Ctx}(h:Ext C g w):∀b n,g.O b=some (C.d,n)->C.okb b:=λb n hO=>by
 rcases wH b C.w0.heap.size with hl|hl
 ·obtain⟨n',G⟩:=h.own b C.d n hl hO;exact .inr ⟨n',G⟩
 ·exact .inl hl
def zipT:List Nat->List AV->List (Nat×AV)
 |s::r,x::q=>(s,x)::zipT r q
 |_,_=>[]
def zpE:∀{sl:List Nat}{xs:List AV}{t:Nat}{x:AV},lk (zipT sl xs) t=some x->∃j:Nat,sl[j]? =some t/\xs[j]? =some x
 |[],_,_,_,h=>by simp[zipT,lk]at h
 |_::_,[],_,_,h=>by simp[zipT,lk]at h
 |s::r,y::q,t,x,h=>by
  simp only[zipT,ym]at h;cases G:s.beq t<;>simp[G]at h
  ·obtain⟨j,h1,h2⟩:=zpE h;exact⟨j+1,by simpa using h1,by simpa using h2⟩
  ·have:s=t:=ao G
   exact⟨0,by simp[this],by simp[h]⟩
def zDB(P:Program)(C:Ctx)(l:Nat)(g:Gh)(w:World)(busy:Obj)(lN hN:Nat)(vs:List Value)(sl:List Nat)(nxt:List AV×List (Nat×Blk)->Prop)(Q:Exit->St->Prop)(e:Exit)(st:St):Prop:=
 ∃(tv:List AV)(hs:List (Nat×Blk)),Imp (C.rnd l g w) st ⟨[],(hN,.hold vs tv)::(lN,.obj l busy)::hs⟩∧
  match e with
  |.normal=>nxt (tv,hs)
  |.ret=>Q .ret ⟨zipT sl tv,(lN,.dead)::(hN,.dead)::hs⟩
  |.exit id=>Q (.exit id) ⟨zipT sl tv,(lN,.dead)::(hN,.dead)::hs⟩
  |_=>False
def RndQ(P:Program)(C:Ctx)(l:Nat)(g:Gh)(w:World)(busy:Obj)(lN hN:Nat)(vs:List Value)(sl:List Nat)(nxt:List AV×List (Nat×Blk))(Jn:Prop)(Q:Exit->St->Prop)(e:Exit)(st:St):Prop:=
 ∃(tv:List AV)(hs:List (Nat×Blk)),Imp (C.rnd l g w) st ⟨[],(hN,.hold vs tv)::(lN,.obj l busy)::hs⟩∧
  match e with
  |.normal=>(tv,hs)=nxt/\Jn
  |.ret=>Q .ret ⟨zipT sl tv,(lN,.dead)::(hN,.dead)::hs⟩
  |.exit id=>Q (.exit id) ⟨zipT sl tv,(lN,.dead)::(hN,.dead)::hs⟩
  |_=>False
def zgJ:List Tmp->List AV->List (Nat×AV)->List (Nat×AV)
 |t::r,x::q,s=>zgJ r q ((t,x)::s)
 |_,_,s=>s
def zm1{I:Im}{ρ:Nat->Value}:∀{ps:List Tmp}{as:List AV}{vs:List Value}{s:List (Nat×AV)}{tm:Array Value},ps.length=as.length->RVL I ρ as vs->(∀p∈ps,p<tm.size)->(∀t x,lk s t=some x->RV I ρ x (tm.getD t undef))→
 ∀t x,lk (zgJ ps as s) t=some x->RV I ρ x (((ps.zip vs).foldl (λtm(t,a)=>tm.setIfInBounds t a) tm).getD t undef)
 |[],[],vs,s,tm,_,_,_,h=>by simpa[zgJ]using h
 |p::r,y::q,vs,s,tm,hl,hv,hp,h=>by
  obtain⟨h1,h2⟩:=hv;cases vs with
  |nil=>simp at h1
  |cons v us=>
   simp only[zgJ,List.zip_cons_cons,x9];refine zm1 (ao hl) ⟨by simpa using h1,λj c u hc hu=>h2 (j+1) c u (ao hc) (ao hu)⟩ (λp' G=>by simpa using hp p' (by simp[G])) (λt x hx=>?_);simp only[ym]at hx;have xT:=hp p ah;simp only[jI,uK];by_cases e:p=t
   ·subst e;simp at hx;subst hx;simp[xT];exact h2 0 _ v ah ah
   grind[beqF,Array.getD_eq_getD_getElem?]
 |[],_::_,_,_,_,hl,_,_,_=>by simp at hl
 |_::_,[],_,_,_,hl,_,_,_=>by simp at hl
def zjx:∀(l:List (Tmp×Value))(tm:Array Value),(l.foldl (λtm(t,a)=>tm.setIfInBounds t a) tm).size=tm.size
 |[],tm=>rfl
 |(t,a)::r,tm=>by simp[zjx]
def Rel.putObj{C:Ctx}(h:Rel C st g a w){b:Nat}{o':Obj}(hk:lk st.h k=some (.obj b o)):Rel C (putH st k (.obj b o')) g a (w.putObj b o'):=by
 obtain⟨h1,h2,h3⟩:=h.sat.blk k _ hk;refine h.modify h2 h3 ⟨rfl,rfl,rfl,ah,λj hj G=>World.putObj_heap_other (ao G)⟩ (jG _) ⟨World.putObj_heap_same (zb h1),h2,h3⟩
def Rel.outof{C:Ctx}{lN hN:Nat}{tv:List AV}{hs:List (Nat×Blk)}{g2:Gh}{a1 a2:Act}{w2:World}(h0:Rel C st0 g a1 w)
 (h:Rel (C.rnd l g w) ⟨[],(hN,.hold vs tv)::(lN,.obj l o)::hs⟩ g2 a2 w2)(x1:hN≠lN)(x0:vs=sl.map λt=>a1.tmps.getD t undef)(x2:C.yB<=C.w0.heap.size):Rel C ⟨zipT sl tv,(lN,.obj l o)::(hN,.dead)::hs⟩ g2 a1 w2:=by
 have G:Ext C g2 w2:=h0.ext.trans h.ext;refine⟨h0.size,?_,λt x hx=>?_,⟨h.sat.im,h.sat.ob,λk B hB=>?_⟩,G⟩
 ·obtain⟨D,h1,hn,h2⟩:=h0.defers;refine⟨D,h1,hn,λr hr=>?_⟩;obtain⟨h3,h4,h5⟩:=h2 r hr
  obtain⟨e1,e2⟩:=h.ext.keep r (zb h3) (λhk=>by
   rcases hk with hk|⟨n,hk⟩
   ·exact absurd hk (kH.2 (zb h3))
   ·have hk:g.O r=some (C.d,n):=hk;rw[h4]at hk;simp at hk) (λ⟨y,n,_,hm⟩=>by
    have hm:g.O r=some (y,n):=hm;rw[h4]at hm;simp at hm)
  simp_all
 ·obtain⟨j,h1,h2⟩:=zpE hx;obtain⟨p1,p2⟩:=h.sat.blk hN (.hold vs tv) (by simp[ym]);refine p2 j x _ h2 ?_;simp_all
 ·have xT:B=.dead\/lk ((hN,.hold vs tv)::(lN,.obj l o)::hs) k=some B:=by
   grind[ym,beqF]
  rcases xT with rfl|xT
  ·trivial
  ·exact(h.sat.blk k B xT).outof G.okb (λ_=>x2)
def Rel.kept{C:Ctx}{I I':Im}{O O':Owns}(h:Rel C st ⟨ρ,I,O⟩ a w)(hI:Im.le I I')(hk:∀b,b<w.heap.size->(b<B\/∃y n,y∈C.d::C.ds/\O b=some (y,n))->w'.heap[b]? =w.heap[b]? /\O' b=O b)
 (h1:w'.os=w.os)(h2:w'.tape=w.tape)(h3:w'.output=w.output)(h5:w.drawn<=w'.drawn)(h4:w.heap.size<=w'.heap.size)(x2:ImO I' O' w')(hm:∀r,mkD r∈a.defers->r<B)(hB:C.w0.heap.size<=B):Rel C st ⟨ρ,I',O'⟩ a w':=by
 have hd:∀b n,b<w.heap.size->O b=some (C.d,n)->w'.heap[b]? =w.heap[b]? /\O' b=O b:=λb n G hO=>hk b G (.inr ⟨C.d,n,ah,hO⟩)
 refine⟨h.size,?_,λt x hx=>(h.tmps t x hx).mono hI,⟨x2.1,x2.2,λk B' x1=>?_⟩,?_⟩
 ·obtain⟨D,p1,hn,p2⟩:=h.defers;refine⟨D,p1,hn,λr hr=>?_⟩;obtain⟨p3,p4,p5⟩:=p2 r hr;obtain⟨e1,e2⟩:=hk r (zb p3) (.inl (hm r (p1.mem.2 hr)));simp_all
 ·have h0:=h.sat.blk k B' x1;cases B' with
  |box cs E=>
   obtain⟨b,vs,q1,q2,q3,q4,q5,q6⟩:=h0;obtain⟨e1,e2⟩:=hd b k (zb q4) q2;exact⟨b,vs,q1,e2.trans q2,q3,e1.trans q4,q5,λj c v xT hv=>(q6 j c v xT hv).mono hI⟩
  |row enc l E s=>
   obtain⟨xs,q1,q2,q3,q4⟩:=h0;refine⟨xs,?_,q2,λi x j c v hx xT hv=>(q3 i x j c v hx xT hv).mono hI,λb G=>?_⟩
   ·obtain⟨p1,p2⟩:=q1;refine⟨p1,?_⟩;rcases p2 with p2|⟨b,cap,cur,hv,G,hh,r⟩
    ·exact .inl p2
    ·have:=q4 b (by rw[hv];rfl);exact .inr ⟨b,cap,cur,hv,G,(hd b k (zb hh) this.1).1.trans hh,r⟩
   grind[zbR]
  |hold vs cs=>exact⟨h0.1,λj c v xT hv=>(h0.2 j c v xT hv).mono hI⟩
  |obj b o=>
   grind[yM]
  |yld j on=>
   obtain⟨q1,q2,q3,q4,q5⟩:=h0;refine⟨q1,q2,q3,λb n hn=>?_,q2 j on _ _ _ _ _ _ q5 hI (λb G hy=>hk b G ?_) h1 h2 h3 h5 h4 x2⟩
   ·rcases wH b C.yB with hl|hl
    ·have x0:b<w.heap.size:=by have:=h.ext.size;omega
     have e:=(hk b x0 (.inl aa)).2;exact q4 b n (e.symm.trans hn)
    ·exact hl
   grind
  |mpb kenc venc l=>
   obtain⟨b,es,ck,q1,q2,q3,q4,q5,q6⟩:=h0;obtain⟨e1,e2⟩:=hd b k (zb q4) q2;exact⟨b,es,ck,q1,e2.trans q2,q3,e1.trans q4,q5,λi e p he hp=>⟨(q6 i e p he hp).1.mono hI,(q6 i e p he hp).2.mono hI⟩⟩
  |dead=>trivial
 ·refine⟨Im.le_trans h.ext.I hI,h1.trans h.ext.os,h2.trans h.ext.tape,h3.trans h.ext.output,jV h.ext.drawn h5,jV h.ext.size h4,λb G hn ho=>?_,λb y n G hy=>?_⟩
  ·obtain⟨p1,p2⟩:=h.ext.keep b G hn ho
   grind
  ·have e2:=(hk b (w7 G h.ext.size) (.inl aa)).2;exact h.ext.own b y n G (e2.symm.trans hy)
def Rel.drop2{C:Ctx}{t:List (Nat×AV)}{B1 B2:Blk}{h:List (Nat×Blk)}(hr:Rel C (putH (putH ⟨t,(k,B1)::h⟩ k B2) k .dead) g a w):Rel C ⟨t,(k,.dead)::h⟩ g a w:=by
 refine⟨hr.size,hr.defers,hr.tmps,⟨hr.sat.im,hr.sat.ob,λk' B G=>hr.sat.blk k' B ?_⟩,hr.ext⟩
 grind[putH,ym]
def zsZ:Exit->Option Code
 |.ret=>some .ret
 |.exit id=>some (.exit id)
 |_=>none
def RdOk(C:Ctx)(st:St):Prop:=match C.rd with
 |none=>True
 |some l0=>∃k0 r0,lk st.h k0=some (.obj l0 (.loop r0))
section
variable{P:Program}{C:Ctx}{st:St}{Q:Exit->St->Prop}
variable{N:Nat->Prop}{a:Act}{assign body:Code}{f:FuncId}{g:Gh}{gop:Operand}{ps:Array Tmp}{sl:List Nat}{w:World}{ι π:Type}{H:π->List Nat->Im->Owns->World->Prop}
def Rel.enter(hr:Rel C st g a w)(x2:RdOk C st){lN hN:Nat}(hl:st.fr lN=true)(hh:st.fr hN=true)(v8:hN≠lN)(fn:FuncId)(ps:Array Tmp)(assign body:Code):
 ∃l mark w1 g1 dfs,(Instr.enterLoop fn a.tmps ps assign body C.F.round).run P w=.ok (l,mark) w1∧
  Rel C ⟨st.t,(lN,.obj l (.loop {state:=.ready,pending:=none,fn,tmps:=a.tmps,params:=ps,assign,body,defers:=dfs}))::(hN,.dead)::st.h⟩ g1 {a with defers:=mark++a.defers} w1:=by
 --the record alone
 have key:∀(g:Gh)(a':Act)(w:World)(dfs:Nat),Rel C st g a' w->a'.tmps=a.tmps→
  Rel C ⟨st.t,(lN,.obj w.heap.size (.loop {state:=.ready,pending:=none,fn,tmps:=a.tmps,params:=ps,assign,body,defers:=dfs}))::(hN,.dead)::st.h⟩
   (g.nw C.d w.heap.size lN .nilIface) a' (w.alloc (.loop {state:=.ready,pending:=none,fn,tmps:=a.tmps,params:=ps,assign,body,defers:=dfs})):=by
  intro g a' w dfs hr ha;generalize ho:Obj.loop {state:=.ready,pending:=none,fn,tmps:=a.tmps,params:=ps,assign,body,defers:=dfs}=o;have G:=Add.nw (g:=g) (Grow.alloc w o) C.d lN .nilIface;have w2:=ImOB.nw (g:=g) ⟨hr.sat.im,hr.sat.ob⟩ (Grow.alloc w o) ah C.d lN .nilIface;have h1:=hr.add (d:=none) (x:=.any) (v:=.nilIface) G (λk hk=>by simp_all) (λt h=>by simp at h) (.any _) w2.1 w2.2;exact(h1.withBlk (k:=hN) (B:=.dead) trivial).withBlk (k:=lN) (B:=.obj w.heap.size o) ⟨heap_alloc_new w _,by simp[Gh.nw],.inl hr.ext.size⟩
 unfold RdOk at x2;cases hC:C.rd with
 |none=>
  have hF:C.F.round=none:=by unfold Ctx.F;rw[hC];rfl
  rw[hF];have x1:=Grow.alloc w (.deferred (some []))
  have h1:Rel C st g {a with defers:=mkD w.heap.size::a.defers} (w.alloc (.deferred (some []))):=by
   have G:Add none g w g (w.alloc (.deferred (some []))):=⟨Im.le_refl _,λ_ _=>rfl,λ_ _=>rfl,x1⟩;have xT:=hr.add (d:=none) (x:=.any) (v:=.nilIface) G (λk h=>by simp at h) (λt h=>by simp at h) (.any _) (λb o u hI=>⟨x1.cell (hr.sat.im b o u hI).1,(hr.sat.im b o u hI).2⟩) (hr.sat.ob.up (Im.le_refl _) x1.size);refine⟨xT.size,?_,xT.tmps,xT.sat,xT.ext⟩;obtain⟨D,p1,hn,p2⟩:=xT.defers;obtain⟨D',q1,v5,q2⟩:=hr.defers;refine⟨w.heap.size::D,p1.push _,vR.2 ⟨λhm=>?_,hn⟩,λr x0=>?_⟩
   ·have:=zb (q2 _ (q1.mem.1 (p1.mem.2 hm))).1;omega
   ·rcases jW.1 x0 with rfl|x0
    ·refine⟨heap_alloc_new w _,?_,hr.ext.size⟩;cases hO:g.O w.heap.size with
     |none=>rfl
     |some k=>have:=hr.sat.ob.1 _ k hO;omega
    ·exact p2 r x0
  have h2:=key g _ _ w.heap.size h1 rfl;exact⟨_,_,_,_,w.heap.size,run_enterLoop_outer fn a.tmps ps assign body,by simpa[mkD]using h2⟩
 |some l0=>
  rw[hC]at x2;obtain⟨k0,r0,v9⟩:=x2;have hF:C.F.round=some l0:=by unfold Ctx.F;rw[hC];rfl
  rw[hF];have hb:=(hr.sat.blk k0 _ v9).1;exact⟨_,_,_,_,r0.defers,run_enterLoop_inner hb fn a.tmps ps assign body,by simpa using key g a w r0.defers hr rfl⟩
def X.rangeX{caps:List AV}{caps':π->List AV}{X:Nat->List AV->Prop}(B:ι->List AV×List (Nat×Blk))(J:Nat->ι->Prop)(i0:ι)(lN hN:Nat)
 (hg:ev st gop=some (.fn f caps))(j1:∀p,AV.nm.nmL (caps' p)=true)(j0:sl.Nodup)(hZ:∀(j:Nat)(as:List AV),X j as->AV.nm.nmL as=true)(v1:∀p,ItX P f (caps' p) X N (H p))(hX:RdOk C st)(hl:st.fr lN=true)(hh:st.fr hN=true)(x0:hN≠lN)(v0:C.yB<=C.w0.heap.size)
 (hW:∀p∈ps.toList,p<C.n)(k9:∀(j:Nat)(as:List AV),X j as->ps.toList.length=as.length)(hB:∀i,(B i).1.length=sl.length)(hlf:AV.fr.frL lN caps=true)(hhf:AV.fr.frL hN caps=true)
 (h0:∀l o us g a w,Rel C ⟨st.t,(hN,.hold us caps)::(lN,.obj l o)::(hN,.dead)::st.h⟩ g a w->∃p g',Rel C ⟨zipT sl (B i0).1,(hN,.hold us (caps' p))::(lN,.obj l o)::(B i0).2⟩ g' a w/\H p (C.d::C.ds) g'.I g'.O w)
 (hQ:J 0 i0)(k8:∀(j:Nat)(as:List AV)(i:ι),X j as->J j i->∀(l:Nat)(ready busy:Obj)(rb:Loop)(vs:List Value)g w,busy=.loop rb->C.yB<=w.heap.size->Go.Rse.X P (C.rnd l g w) assign ⟨zgJ ps.toList as (zipT sl (B i).1),(hN,.hold vs (B i).1)::(lN,.obj l ready)::(B i).2⟩
  (λe st1=>e=.normal/\lk st1.h lN=some (.obj l ready)/\Go.Rse.X P (C.rnd l g w) body (putH st1 lN (.obj l busy)) (zDB P C l g w busy lN hN vs sl (λp=>∃i,p=B i/\J (j+1) i) Q)))
 (k7:∀j i,N j->J j i->Q .normal ⟨zipT sl (B i).1,(lN,.dead)::(hN,.dead)::(B i).2⟩):Go.Rse.X P C (.rangeFunc gop ps assign body) st Q:=λg a w hr=>by
 refine wpIn_rangeFunc λfn hfn=>?_
 obtain⟨l,mark,w1,g1,dfs,v9,k6⟩:=hr.enter (P:=P) hX hl hh x0 fn ps assign body;obtain⟨us,e,hul,hu⟩:=zcE (yq hr hg)
 have hG:RVL g1.I g1.ρ caps us:=by
  have hF:ev ⟨st.t,(lN,.obj l (.loop {state:=.ready,pending:=none,fn,tmps:=a.tmps,params:=ps,assign,body,defers:=dfs}))::(hN,.dead)::st.h⟩ gop=some (.fn f caps):=by
   cases gop<;>exact hg
  obtain⟨us',e',hul',hu'⟩:=zcE (yq k6 hF);have e1:∀x:Operand,Act.eval {a with defers:=mark++a.defers} x=a.eval x:=λx=>by cases x<;>rfl
  grind[RVL]
 obtain⟨p,g2,G,hH⟩:=h0 l _ us g1 _ _ (k6.withBlk (k:=hN) (B:=.hold us caps) hG);have hC:RVL g2.I noNames (caps' p) us:=RVL.forget (G.sat.blk hN (.hold us (caps' p)) (by simp[ym])) (j1 p);have v4:hN.beq lN=false:=beqF.2 x0
 --the state at a boundary
 let rec0:Loop:={state:=.ready,pending:=none,fn,tmps:=a.tmps,params:=ps,assign,body,defers:=dfs};let a1:Act:={a with defers:=mark++a.defers}
 let Y:Nat->Bool->Im->Owns->World->Prop:=λj on I O w=>∃ρ,match on with
  |true=>∃i,J j i/\Rel C ⟨zipT sl (B i).1,(lN,.obj l (.loop rec0))::(hN,.dead)::(B i).2⟩ ⟨ρ,I,O⟩ a1 w
  |false=>∃e jc tv hs,zsZ e=some jc/\Rel C ⟨zipT sl tv,(lN,.obj l (.loop {rec0 with state:=.done,pending:=some jc}))::(hN,.dead)::hs⟩ ⟨ρ,I,O⟩ a1 w/\Q e ⟨zipT sl tv,(lN,.dead)::(hN,.dead)::hs⟩
 have h9:Y 0 true g2.I g2.O w1:=⟨g2.ρ,i0,hQ,by
  refine⟨G.size,G.defers,G.tmps,⟨G.sat.im,G.sat.ob,λk B' xT=>?_⟩,G.ext⟩;simp only[ym]at xT;cases hb:lN.beq k
  ·cases h8:hN.beq k
   ·exact G.sat.blk k B' (by simpa[ym,hb,h8]using xT)
   grind[yM]
  ·have:lN=k:=ao hb
   subst this;exact G.sat.blk lN B' (by grind[ym])⟩
 have k5:∀r,mkD r∈a1.defers->r<w1.heap.size:=λr k4=>by
  obtain⟨D,p1,_,p2⟩:=G.defers;have k4:mkD r∈D.map mkD:=List.mem_map_of_mem (p1.mem.1 k4);simp_all[mkD,zb]
 have hYc:YCl Y (C.d::C.ds) w1.heap.size:=by
  intro j on I O w I' O' w' hY hI hk h1 h2 h3 h5 h4 k3;cases on with
  |true=>obtain⟨ρ,i,hJ,hR⟩:=hY;exact⟨ρ,i,hJ,hR.kept hI hk h1 h2 h3 h5 h4 k3 k5 G.ext.size⟩
  |false=>obtain⟨ρ,e,jc,tv,hs,q1,hR,q2⟩:=hY;exact⟨ρ,e,jc,tv,hs,q1,hR.kept hI hk h1 h2 h3 h5 h4 k3 k5 G.ext.size,q2⟩
 have hYs:zaJ P l (C.d::C.ds) Y X:=by
  intro j as hj I O w args hY him x1;obtain⟨ρ,i,hJ,hR⟩:=hY;have hR:Rel C ⟨zipT sl (B i).1,(lN,.obj l (.loop rec0))::(hN,.dead)::(B i).2⟩ ⟨ρ,I,O⟩ a1 w:=hR;have hbl:=(hR.sat.blk lN (.obj l (.loop rec0)) (by simp[ym])).1
  have hsz:args.toArray.size=rec0.params.size:=by
   have:=k9 j as hj;simp only[List.size_toArray,x1.1,rec0];rw[←this];simp
  refine⟨_,_,_,_,_,run_yield hbl hsz,roundIn_of_wpIn trivial ?_⟩;have hxr:=k8 j as i hj hJ l (.loop rec0) (.loop {rec0 with state:=.busy}) _ (sl.map λt=>a1.tmps.getD t undef) ⟨ρ,I,O⟩ w rfl (jV v0 hR.ext.size);have hok:=hR.ext.okb
  have htm:∀t x,lk (zgJ ps.toList as (zipT sl (B i).1)) t=some x->RV I ρ x (((rec0.params.zip args.toArray).foldl (λtmps(t,a)=>tmps.setIfInBounds t a) rec0.tmps).getD t undef):=by
   have:=zm1 (I:=I) (ρ:=ρ) (ps:=ps.toList) (as:=as) (vs:=args) (s:=zipT sl (B i).1) (tm:=a.tmps) (by rw[k9 j as hj]) (x1.forget (hZ j as hj)) (λp hp=>by rw[hr.size];exact hW p hp) (λt x hx=>hR.tmps t x hx)
   grind[Array.toList_zip]
  have hRr:Rel (C.rnd l ⟨ρ,I,O⟩ w) ⟨zgJ ps.toList as (zipT sl (B i).1),(hN,.hold (sl.map λt=>a1.tmps.getD t undef) (B i).1)::(lN,.obj l (.loop rec0))::(B i).2⟩ ⟨ρ,I,O⟩
   {tmps:=(rec0.params.zip args.toArray).foldl (λtmps(t,a)=>tmps.setIfInBounds t a) rec0.tmps,defers:=[]} w:=by
   refine⟨?_,Dfs.nil _ _ _,htm,⟨hR.sat.im,hR.sat.ob,λk B' xT=>?_⟩,⟨Im.le_refl _,rfl,rfl,rfl,jG _,jG _,λ_ _ _ _=>⟨rfl,rfl⟩,λb y n _ hy=>⟨n,hy⟩⟩⟩
   ·rw[←Array.foldl_toList,zjx];exact hr.size
   ·simp only[ym]at xT;cases hb:hN.beq k
    ·refine(hR.sat.blk k B' ?_).into (λb n hO=>.inr ⟨n,hO⟩) (λh=>jV h hR.ext.size)
     grind[lk]
    ·have:B'=.hold (sl.map λt=>a1.tmps.getD t undef) (B i).1:=ak
     subst this;refine⟨by simp[hB],λq c v hc hv=>?_⟩;rw[j9]at hv;cases hs:sl[q]? with
     |none=>simp[hs]at hv
     |some t=>
      simp[hs]at hv;subst hv
      have hz:∀(sl:List Nat)(xs:List AV)(q:Nat),sl.Nodup->sl[q]? =some t->xs[q]? =some c->lk (zipT sl xs) t=some c:=by
       intro sl
       induction sl with
       |nil=>simp_all
       |cons s r ih=>
        intro xs q hnd h h';cases xs with
        |nil=>simp at h'
        |cons y ys=>
         cases q with
         |zero=>simp_all[zipT,ym]
         |succ q=>
          simp at h h';have x0:s≠t:=λe=>(vR.1 hnd).1 (e▸j6 h)
          grind[beqF,zipT,ym]
      simpa[jI]using hR.tmps t c (hz sl _ q j0 hs hc)
  refine wpIn_mono (hxr _ _ _ hRr) ?_
  rintro e2 a2 w2⟨st1,g3,k2,he,v8,v3⟩
  subst he;obtain⟨hb1,_,_⟩:=k2.sat.blk lN _ v8;refine⟨_,run_beginRound hb1 rfl,?_⟩;have hR2:=k2.putObj (o':=.loop {rec0 with state:=.busy}) v8;refine wpIn_mono (v3 _ _ _ hR2) ?_
  rintro e3 a3 w3⟨st3,g4,hR3,tv,hs,j4,hq⟩
  obtain⟨g5,j3⟩:=j4 g4 a3 w3 hR3;have x2:lk [(hN,Blk.hold (sl.map λt=>a1.tmps.getD t undef) tv),(lN,.obj l (.loop {rec0 with state:=.busy}))] lN=some (.obj l (.loop {rec0 with state:=.busy})):=by simp[ym,v4]
  have v5:lk ((hN,Blk.hold (sl.map λt=>a1.tmps.getD t undef) tv)::(lN,.obj l (.loop {rec0 with state:=.busy}))::hs) lN=some (.obj l (.loop {rec0 with state:=.busy})):=by simp[ym,v4]
  obtain⟨hb5,_,_⟩:=j3.sat.blk lN _ v5
  --the record written
  have fin:∀(jump:Option Code),Rel C ⟨zipT sl tv,(lN,.obj l (.loop {rec0 with state:=if jump.isNone then .ready else .done,pending:=jump}))::(hN,.dead)::hs⟩ g5 a1 (w3.putObj l (.loop {rec0 with state:=if jump.isNone then .ready else .done,pending:=jump}))∧
   (Instr.endRound l jump).run P w3=.ok (.bool jump.isNone) (w3.putObj l (.loop {rec0 with state:=if jump.isNone then .ready else .done,pending:=jump}))∧
   ImO g5.I g5.O (w3.putObj l (.loop {rec0 with state:=if jump.isNone then .ready else .done,pending:=jump}))∧
   Chg (C.d::C.ds) I O w g5.I g5.O (w3.putObj l (.loop {rec0 with state:=if jump.isNone then .ready else .done,pending:=jump})):=λjump=>by
   have h6:=j3.putObj (o':=.loop {rec0 with state:=if jump.isNone then .ready else .done,pending:=jump}) v5
   have h7:Rel (C.rnd l ⟨ρ,I,O⟩ w) ⟨[],(hN,.hold (sl.map λt=>a1.tmps.getD t undef) tv)::(lN,.obj l (.loop {rec0 with state:=if jump.isNone then .ready else .done,pending:=jump}))::hs⟩ g5 a3 (w3.putObj l (.loop {rec0 with state:=if jump.isNone then .ready else .done,pending:=jump})):=by
    refine⟨h6.size,h6.defers,h6.tmps,⟨h6.sat.im,h6.sat.ob,λk B' xT=>h6.sat.blk k B' ?_⟩,h6.ext⟩;simp only[putH,ym]at xT⊢;cases hb:lN.beq k
    ·simpa[hb]using xT
    ·have:lN=k:=ao hb
     subst this;simpa[v4]using xT
   refine⟨hR.outof h7 x0 rfl v0,run_endRound (r:={rec0 with state:=.busy}) jump hb5,⟨h6.sat.im,h6.sat.ob⟩,⟨h6.ext.I,h6.ext.os,h6.ext.tape,h6.ext.output,h6.ext.drawn,h6.ext.size,λb hb hno=>?_,h6.ext.own⟩⟩;refine h6.ext.keep b hb (λhk=>?_) (λ⟨y,n,hy,hm⟩=>hno ⟨y,n,by simp[show y∈C.ds from hy],hm⟩);rcases hk with hk|⟨n,hk⟩;all_goals grind
  cases e3 with
  |normal=>
   obtain⟨f1,f2,f3,f4⟩:=fin none;obtain⟨i',hq,hJ'⟩:∃i,(tv,hs)=B i/\J (j+1) i:=hq;have e1:tv=(B i').1:=by rw[←hq]
   have e2:hs=(B i').2:=by rw[←hq]
   subst e1;subst e2;exact⟨_,_,f2,true,g5.I,g5.O,rfl,⟨g5.ρ,i',hJ',f1⟩,f3,f4⟩
  |ret=>
   obtain⟨f1,f2,f3,f4⟩:=fin (some .ret);exact⟨_,_,f2,false,g5.I,g5.O,rfl,⟨g5.ρ,.ret,.ret,tv,hs,rfl,f1,hq⟩,f3,f4⟩
  |exit id=>
   obtain⟨f1,f2,f3,f4⟩:=fin (some (.exit id));exact⟨_,_,f2,false,g5.I,g5.O,rfl,⟨g5.ρ,.exit id,.exit id,tv,hs,rfl,f1,hq⟩,f3,f4⟩
  |goto t=>exact hq.elim
  |panic c=>exact hq.elim
  |outgrown=>exact hq.elim
 have v2:=(v1 p).2 (C.d::C.ds) l Y g2.I g2.O w1 us ⟨G.sat.im,G.sat.ob⟩ hC hH hYc h9 hYs;refine⟨l,mark,w1,{target:=.fn (.func f) us.toArray,args:= #[.func (.yield l) #[] #[]]},w1,f,(Value.func (.yield l) #[] #[]::us).toArray,w1,v9,?_,λf' _=>C.F_fn f',?_,λhx=>by rw[C.F_depth]at hx;simp at hx,?_⟩
 ·simp[resolve,e,Deferred.ofValue];rfl
 ·have:=zN (P:=P) (v1 p).1 (#[Value.func (.yield l) #[] #[]]++us.toArray) w1;simpa[invoke]using this
 ·refine CallsIn.mono (C.calls v2) ?_
  rintro e' w'⟨v,j,on,I',O',rfl,hon,j2,him,hc⟩
  cases on with
  |true=>
   obtain⟨ρ,i,hJ,hR⟩:=j2;have hR:Rel C ⟨zipT sl (B i).1,(lN,.obj l (.loop rec0))::(hN,.dead)::(B i).2⟩ ⟨ρ,I',O'⟩ a1 w':=hR;have x2:lk ((lN,.obj l (.loop rec0))::(hN,.dead)::(B i).2) lN=some (.obj l (.loop rec0)):=by simp[ym]
   have hb:=(hR.sat.blk lN _ x2).1;refine⟨none,_,run_endLoop hb (by simp[rec0]),?_⟩;have h2:=(hR.putObj (o':=.loop {rec0 with state:=.exhausted}) x2).withBlk (k:=lN) (B:=.dead) trivial;exact⟨_,_,h2.drop2,k7 j i (hon rfl) hJ⟩
  |false=>
   obtain⟨ρ,e,jc,tv,hs,q1,hR,q2⟩:=j2;have x2:lk ((lN,.obj l (.loop {rec0 with state:=.done,pending:=some jc}))::(hN,.dead)::hs) lN=some (.obj l (.loop {rec0 with state:=.done,pending:=some jc})):=by simp[ym]
   have hb:=(hR.sat.blk lN _ x2).1;refine⟨some jc,_,run_endLoop hb ah,?_⟩;have h2:=((hR.putObj (o':=.loop {rec0 with state:=.exhausted,pending:=some jc}) x2).withBlk (k:=lN) (B:=.dead) trivial).drop2;cases e<;>simp[zsZ]at q1;all_goals grind[wpIn_exit,wpIn_ret,lift]
def X.range{caps caps':List AV}{xs:List (List AV)}(B:Nat->List AV×List (Nat×Blk))(J:Nat->Prop)(lN hN:Nat)
 (hg:ev st gop=some (.fn f caps))(x2:AV.nm.nmL caps'=true)(x1:sl.Nodup)(x0:∀(j:Nat)(as:List AV),xs[j]? =some as->AV.nm.nmL as=true)(w2:It P f caps' xs)(v9:RdOk C st)(hl:st.fr lN=true)(hh:st.fr hN=true)(v8:hN≠lN)(v5:C.yB<=C.w0.heap.size)
 (v4:∀p∈ps.toList,p<C.n)(v3:∀(j:Nat)(as:List AV),xs[j]? =some as->ps.toList.length=as.length)(hB:∀j,(B j).1.length=sl.length)(v2:AV.fr.frL lN caps=true)(v1:AV.fr.frL hN caps=true)
 (h0:∀l o us,Imp C ⟨st.t,(hN,.hold us caps)::(lN,.obj l o)::(hN,.dead)::st.h⟩ ⟨zipT sl (B 0).1,(hN,.hold us caps')::(lN,.obj l o)::(B 0).2⟩)
 (v0:J 0)(G:∀(j:Nat)(as:List AV),xs[j]? =some as->J j->∀(l:Nat)(ready busy:Obj)(rb:Loop)(vs:List Value)g w,busy=.loop rb->C.yB<=w.heap.size->X P (C.rnd l g w) assign ⟨zgJ ps.toList as (zipT sl (B j).1),(hN,.hold vs (B j).1)::(lN,.obj l ready)::(B j).2⟩
  (λe st1=>e=.normal/\lk st1.h lN=some (.obj l ready)/\X P (C.rnd l g w) body (putH st1 lN (.obj l busy)) (RndQ P C l g w busy lN hN vs sl (B (j+1)) (J (j+1)) Q)))
 (xT:J xs.length->Q .normal ⟨zipT sl (B xs.length).1,(lN,.dead)::(hN,.dead)::(B xs.length).2⟩):X P C (.rangeFunc gop ps assign body) st Q:=
 X.rangeX (X:=λj as=>xs[j]? =some as) (N:=(· =xs.length)) B (λj i=>i=j/\J j) 0 lN hN hg (λ_:Unit=>x2) x1 x0 (λ_=>w2) v9 hl hh v8 v5 v4 v3 hB v2 v1 (λl o us g a w hr=>let⟨g',h⟩:=h0 l o us g a w hr;⟨(),g',h,trivial⟩) ⟨rfl,v0⟩
  (λj as i hx hJ l ready busy rb vs g w hb hw=>by
   obtain⟨rfl,hJ⟩:=hJ;refine X.mono (G i as hx hJ l ready busy rb vs g w hb hw) λe st1⟨h1,h2,h3⟩=>⟨h1,h2,X.mono h3 λe st⟨tv,hs,h4,h5⟩=>⟨tv,hs,h4,?_⟩⟩
   cases e<;>first|exact⟨i+1,h5.1,rfl,h5.2⟩|exact h5)
  (λj i hN hJ=>by obtain⟨rfl,hJ⟩:=hJ;subst hN;exact xT hJ)
end
end Go.Rse
namespace Go.Rse
open Go Go.RowKit
variable{I:Im}{L:List Nat}{P:Program}{c:Code}{ch:List Nat}{f:FuncId}{fn:Func}{g:Gh}{k:Nat}{kp:List Nat}{n:Nat}{rv:List ResultVar}{v:Value}{w:World}{ι:Type}{μ:List (Nat×Nat)}{ρ ρ':Nat->Value}
def RV.renameL{x:AV}(h:RV I ρ x v)(hf:∀k∈ch,x.fr k=true)(hρ:∀n,n∉ch->ρ' n=ρ n):RV I ρ' x v:=by
 induction h with
 |int k n=>exact .int k n
 |bool b=>exact .bool b
 |str s=>exact .str s
 |nils=>exact .nils
 |nilf=>exact .nilf
 |val v=>exact .val v
 |sl enc l A b o s c vs hA hc hm hs hI hv ih=>exact .sl enc l A b o s c vs hA hc hm hs hI hv
 |own k' A n c h=>
  have:k'∉ch:=λhm=>by have:=hf k' hm;simp[AV.fr]at this
  exact .own k' A n c ((hρ k' this).trans h)
 |ptr k' s i j b h=>
  have:k'∉ch:=λhm=>by have:=hf k' hm;simp[AV.fr]at this
  exact .ptr k' s i j b ak
 |mth f k' s i j b h=>
  have:k'∉ch:=λhm=>by have:=hf k' hm;simp[AV.fr]at this
  exact .mth f k' s i j b ak
 |sub k' s i m c A h=>
  have:k'∉ch:=λhm=>by have:=hf k' hm;simp[AV.fr]at this
  exact .sub k' s i m c A ak
 |ept enc x j b o vs hI hv ih=>exact .ept enc x j b o vs hI hv
 |yv l=>exact .yv l
 |fn f caps vs hl hv ih=>exact .fn f caps vs hl (λj c v hc G=>ih j c v hc G (λk hk=>zo (by simpa[AV.fr]using hf k hk) hc) hρ)
 |agg cs vs hl hv ih=>exact .agg cs vs hl (λj c v hc G=>ih j c v hc G (λk hk=>zo (by simpa[AV.fr]using hf k hk) hc) hρ)
 |tup cs vs hl hv ih=>exact .tup cs vs hl (λj c v hc G=>ih j c v hc G (λk hk=>zo (by simpa[AV.fr]using hf k hk) hc) hρ)
 |ifb b x v h ih=>exact .ifb b x v (λhb=>ih hb (λk hk=>by simpa[AV.fr]using hf k hk) hρ)
 |opt b x v h h0 ih=>exact .opt b x v (λhb=>ih hb (λk hk=>by simpa[AV.fr]using hf k hk) hρ) h0
 |mp k' b h=>
  have:k'∉ch:=λhk=>by have:=hf k' hk;simp[AV.fr]at this
  exact .mp k' b ((hρ k' this).trans h)
 |iny k n=>exact .iny k n
 |any v=>exact .any v
def fwd:List (Nat×Nat)->Nat->Option Nat
 |[],_=>none
 |(n,k)::r,m=>bif n.beq m then some k else fwd r m
def bwd:List (Nat×Nat)->Nat->Option Nat
 |[],_=>none
 |(n,k)::r,m=>bif k.beq m then some n else bwd r m
def biOk(μ:List (Nat×Nat)):Bool:=μ.all λp=>(fwd μ p.1==some p.2)&&(bwd μ p.2==some p.1)
def zpF:∀{μ:List (Nat×Nat)}{n k:Nat},fwd μ n=some k->(n,k)∈μ
 |[],_,_,h=>by simp[fwd]at h
 |(a,b)::r,n,k,h=>by
  simp only[fwd]at h;cases G:a.beq n<;>simp[G]at h
  ·exact wA _ (zpF h)
  simp_all
def zir:∀{μ:List (Nat×Nat)}{n k:Nat},bwd μ k=some n->(n,k)∈μ
 |[],_,_,h=>by simp[bwd]at h
 |(a,b)::r,n,k,h=>by
  simp only[bwd]at h;cases G:b.beq k<;>simp[G]at h
  ·exact wA _ (zir h)
  simp_all
theorem zm2(h:biOk μ=true):fwd μ n=some k↔bwd μ k=some n:=by
 simp only[biOk,jF,jE,beq_iff_eq]at h;constructor
 ·intro hf;exact(h _ (zpF hf)).2
 ·intro G;exact(h _ (zir G)).1
def ren1(μ:List (Nat×Nat)):AV->AV
 |.own n=>.own ((fwd μ n).getD 0)
 |.ptr n s i j=>.ptr ((fwd μ n).getD 0) s i j
 |.mp n=>.mp ((fwd μ n).getD 0)
 |x=>x
def AV.ren(μ:List (Nat×Nat)):AV->AV
 |.fn f cs=>.fn f (cs.map (ren1 μ))
 |.tup cs=>.tup (cs.map (ren1 μ))
 |.agg cs=>.agg (cs.map (ren1 μ))
 |x=>ren1 μ x
def ok1(L:List Nat):AV->Bool
 |.own n=>L.any (·.beq n)
 |.ptr n _ _ _=>L.any (·.beq n)
 |.mp n=>L.any (·.beq n)
 |x=>x.nm
def AV.okN(L:List Nat):AV->Bool
 |.fn _ cs=>cs.all (ok1 L)
 |.tup cs=>cs.all (ok1 L)
 |.agg cs=>cs.all (ok1 L)
 |x=>ok1 L x
def zis(hρ:∀n∈L,ρ' ((fwd μ n).getD 0)=ρ n){x:AV}(hk:ok1 L x=true)(h:RV I ρ x v):RV I ρ' (ren1 μ x) v:=by
 cases x with
 |own n=>
  have:n∈L:=by simp_all[ok1]
  cases h;exact .own _ _ _ _ ((hρ n this).trans ai)
 |ptr n s i j=>
  have:n∈L:=by simp_all[ok1]
  cases h;exact .ptr _ _ _ _ _ ak
 |mp n=>
  have:n∈L:=by simp_all[ok1]
  cases h;exact .mp _ _ ((hρ n this).trans ai)
 |_=>exact h.forget hk
def zit(hρ:∀n∈L,ρ' ((fwd μ n).getD 0)=ρ n){x:AV}(hk:ok1 L x=true)(h:RV I ρ' (ren1 μ x) v):RV I ρ x v:=by
 cases x with
 |own n=>
  have:n∈L:=by simp_all[ok1]
  have h:RV I ρ' (.own ((fwd μ n).getD 0)) v:=h;cases h;exact .own _ _ _ _ ((hρ n this).symm.trans ai)
 |ptr n s i j=>
  have:n∈L:=by simp_all[ok1]
  have h:RV I ρ' (.ptr ((fwd μ n).getD 0) s i j) v:=h;cases h;exact .ptr _ _ _ _ _ ak
 |mp n=>
  have:n∈L:=by simp_all[ok1]
  have h:RV I ρ' (.mp ((fwd μ n).getD 0)) v:=h;cases h;exact .mp _ _ ((hρ n this).symm.trans ai)
 |_=>exact RV.forget h hk
theorem zs0(hρ:∀n∈L,ρ' ((fwd μ n).getD 0)=ρ n){x:AV}(hk:x.okN L=true)(h:RV I ρ x v):RV I ρ' (x.ren μ) v:=by
 have hl:∀(cs:List AV)(us:List Value),cs.all (ok1 L)=true->us.length=cs.length->(∀(j:Nat)(c:AV)(v:Value),cs[j]? =some c->us[j]? =some v->RV I ρ c v)→
  ∀(j:Nat)(c:AV)(v:Value),(cs.map (ren1 μ))[j]? =some c->us[j]? =some v->RV I ρ' c v:=λcs us hk hl hv j c v hc hu=>by
  rw[j9]at hc;cases hz:cs[j]? with
  |none=>simp[hz]at hc
  |some z=>
   simp[hz]at hc;subst hc;exact zis hρ (jF.1 hk z (j6 hz)) (hv j z v hz hu)
 cases x with
 |fn f cs=>cases h;rename_i us h1 G;exact .fn f _ us (ao h1) (hl cs us hk h1 G)
 |tup cs=>cases h;rename_i us h1 G;exact .tup _ us (ao h1) (hl cs us hk h1 G)
 |agg cs=>cases h;rename_i us h1 G;exact .agg _ us (ao h1) (hl cs us hk h1 G)
 |own n=>exact zis (x:=.own n) hρ hk h
 |ptr n s i j=>exact zis (x:=.ptr n s i j) hρ hk h
 |mp n=>exact zis (x:=.mp n) hρ hk h
 |_=>exact h.forget hk
def zs1(hρ:∀n∈L,ρ' ((fwd μ n).getD 0)=ρ n){x:AV}(hk:x.okN L=true)(h:RV I ρ' (x.ren μ) v):RV I ρ x v:=by
 have hl:∀(cs:List AV)(us:List Value),cs.all (ok1 L)=true->us.length=(cs.map (ren1 μ)).length->(∀(j:Nat)(c:AV)(v:Value),(cs.map (ren1 μ))[j]? =some c->us[j]? =some v->RV I ρ' c v)→
  ∀(j:Nat)(c:AV)(v:Value),cs[j]? =some c->us[j]? =some v->RV I ρ c v:=λcs us hk hl hv j c v hc hu=>
  zit hρ (jF.1 hk c (j6 hc)) (hv j _ v ak hu)
 cases x with
 |fn f cs=>
  have h:RV I ρ' (.fn f (cs.map (ren1 μ))) v:=h;cases h;rename_i us h1 G;exact .fn f _ us (ao h1) (hl cs us hk h1 G)
 |tup cs=>
  have h:RV I ρ' (.tup (cs.map (ren1 μ))) v:=h;cases h;rename_i us h1 G;exact .tup _ us (ao h1) (hl cs us hk h1 G)
 |agg cs=>
  have h:RV I ρ' (.agg (cs.map (ren1 μ))) v:=h;cases h;rename_i us h1 G;exact .agg _ us (ao h1) (hl cs us hk h1 G)
 |own n=>exact zit (x:=.own n) hρ hk h
 |ptr n s i j=>exact zit (x:=.ptr n s i j) hρ hk h
 |mp n=>exact zit (x:=.mp n) hρ hk h
 |_=>exact RV.forget h hk
def Blk.nm:Blk->Bool
 |.box cs _=>AV.nm.nmL cs
 |.row _ _ _ _=>true
 |.mpb _ _ _=>true
 |_=>false
def keys(h:List (Nat×Blk)):List Nat:=h.map (·.1)
def Blk.okNB(L:List Nat):Blk->Bool
 |.box cs _=>cs.all (AV.okN L)
 |.row _ _ _ _=>true
 |.mpb _ _ _=>true
 |_=>false
def Blk.renB(μ:List (Nat×Nat)):Blk->Blk
 |.box cs E=>.box (cs.map (AV.ren μ)) E
 |B=>B
def FnO(P:Program)(f:FuncId)(as:List AV)(hs:List (Nat×Blk))(kp:List Nat)(r:AV)(hs':List (Nat×Blk)):Prop:=
 zy P f=true/\∀(d:Nat)(ρ:Nat->Value)(I:Im)(O:Owns)(w:World)(args:List Value),Sat (C0 0 d ⟨ρ,I,O⟩ w) hs ⟨ρ,I,O⟩ w->RVL I ρ as args→
  Calls P f args.toArray w λe w'=>∃v ρ' I' O',e=.returned v/\Sat (C0 0 d ⟨ρ,I,O⟩ w) hs' ⟨ρ',I',O'⟩ w'/\RV I' ρ' r v/\Ext (C0 0 d ⟨ρ,I,O⟩ w) ⟨ρ',I',O'⟩ w'/\∀n∈kp,ρ' n=ρ n
def FnE(P:Program)(f:FuncId)(as:List AV)(hs:List (Nat×Blk))(kp:List Nat)(r:ι->AV)(hs':ι->List (Nat×Blk)):Prop:=
 zy P f=true/\∀(d:Nat)(ρ:Nat->Value)(I:Im)(O:Owns)(w:World)(args:List Value),Sat (C0 0 d ⟨ρ,I,O⟩ w) hs ⟨ρ,I,O⟩ w->RVL I ρ as args→
  Calls P f args.toArray w λe w'=>∃i v ρ' I' O',e=.returned v/\Sat (C0 0 d ⟨ρ,I,O⟩ w) (hs' i) ⟨ρ',I',O'⟩ w'/\RV I' ρ' (r i) v/\Ext (C0 0 d ⟨ρ,I,O⟩ w) ⟨ρ',I',O'⟩ w'/\∀n∈kp,ρ' n=ρ n
def FnE.one{as:List AV}{hs G:List (Nat×Blk)}{r:AV}(h:FnE P f as hs kp (ι:=Unit) (λ_=>r) λ_=>G):FnO P f as hs kp r G:=
 ⟨h.1,λd ρ I O w args h1 h2=>Calls.mono (h.2 d ρ I O w args h1 h2) λe w'⟨_,v,ρ',I',O',q⟩=>⟨v,ρ',I',O',q⟩⟩
def hdr(h:List (Nat×Blk))(n:Nat):Option AV:=match lk h n with
 |some (.row _ _ _ _)=>some (.own n)
 |some (.box _ _)=>some (.ptr n 0 0 0)
 |some (.mpb _ _ _)=>some (.mp n)
 |_=>none
abbrev kN:Nat:=1000001
theorem zAc{C:Ctx}{h:List (Nat×Blk)}(hs:Sat C h g w){x:AV}(hx:hdr h n=some x):RV g.I g.ρ x (g.ρ n):=by
 unfold hdr at hx;split at hx
 ·rename_i G;injection hx with hx;subst hx;obtain⟨xs,h1,_⟩:=hs.blk n _ G;rcases h1.2 with⟨e,_⟩|⟨b,cap,cur,e,_⟩
  ·rw[e];exact .own n _ _ _ e
  ·rw[e];exact .own n _ _ _ e
 ·rename_i G;injection hx with hx;subst hx;obtain⟨b,vs,h1,_⟩:=hs.blk n _ G;rw[h1];have:=RV.ptr (I:=g.I) (ρ:=g.ρ) n 0 0 0 b (by rw[h1];rfl);simpa using this
 ·rename_i G;injection hx with hx;subst hx;obtain⟨b,es,ck,h1,_⟩:=hs.blk n _ G;rw[h1];exact .mp n b h1
 ·simp at hx
def zu4{C:Ctx}{h:List (Nat×Blk)}(hs:Sat C h g w){x:AV}(hx:hdr h n=some x)(hv:RV g.I g.ρ x v):g.ρ n=v:=by
 unfold hdr at hx;split at hx
 ·grind[zn]
 ·rename_i G;injection hx with hx;subst hx;obtain⟨b,vs,h1,_⟩:=hs.blk n _ G
  grind[zad,yT]
 ·rename_i G;injection hx with hx;subst hx;cases hv<;>grind
 ·simp at hx
def ziu{C:Ctx}{h:List (Nat×Blk)}{g:Gh}{w:World}(hs:Sat C h g w):∀{kp:List Nat}{cs:List AV},kp.mapM (hdr h)=some cs->RVL g.I g.ρ cs (kp.map g.ρ)
 |[],cs,e=>by grind[RVL]
 |n::r,cs,e=>by
  simp only[kC]at e;cases h1:hdr h n with
  |none=>simp[h1]at e
  |some x=>
   cases G:r.mapM (hdr h)with
   |none=>simp[h1,G]at e
   |some ys=>
    simp[h1,G]at e;subst e;obtain⟨hl,hv⟩:=ziu hs G
    grind[zAc,RVL]
def zgK{C:Ctx}{h:List (Nat×Blk)}{g:Gh}{w:World}(hs:Sat C h g w){ρ:Nat->Value}:∀{kp:List Nat}{cs:List AV},kp.mapM (hdr h)=some cs->RVL g.I g.ρ cs (kp.map ρ)->∀n∈kp,g.ρ n=ρ n
 |[],cs,e,_,n,hn=>by simp at hn
 |m::r,cs,e,G,n,hn=>by
  simp only[kC]at e;cases h1:hdr h m with
  |none=>simp[h1]at e
  |some x=>
   cases h2:r.mapM (hdr h)with
   |none=>simp[h1,h2]at e
   |some ys=>
    simp[h1,h2]at e;subst e;rcases jW.1 hn with rfl|hn
    ·exact zu4 hs h1 (G.2 0 x _ ah ah)
    ·exact zgK hs h2 ⟨by simpa using G.1,λj c v hc xT=>G.2 (j+1) c v (ao hc) (ao xT)⟩ n hn
def zm3(P:Program)(C:Ctx)(rv:List ResultVar)(r:ι->AV)(vs:List Value)(cs:List AV)(hs':ι->List (Nat×Blk))(e:Exit)(st:St):Prop:=
 (e=.normal\/e=.ret)/\∃i ts ex,Imp C st ⟨ts,(kN,.hold vs cs)::(hs' i++ex)⟩/\RetVs P ⟨ts,(kN,.hold vs cs)::(hs' i++ex)⟩ rv (r i)
def zm4(P:Program)(C:Ctx)(rv:List ResultVar)(r:AV)(vs:List Value)(cs:List AV)(hs':List (Nat×Blk))(e:Exit)(st:St):Prop:=
 (e=.normal\/e=.ret)/\∃ts,Imp C st ⟨ts,(kN,.hold vs cs)::hs'⟩/\RetVs P ⟨ts,(kN,.hold vs cs)::hs'⟩ rv r
def yM.ctx{n' d:Nat}{g0:Gh}{w0:World}{B:Blk}(h:yM (C0 n d g0 w0) g w k B):yM (C0 n' d g0 w0) g w k B:=by
 cases B<;>exact h
def zgL{α:Type 1}:∀{h:List (Nat×α)}{k:Nat},(h.all λp=>!(p.1.beq k))=true->lk h k=none
 |[],_,_=>rfl
 |(k',B)::r,k,h=>by
  simp only[xS,jE]at h;have:k'.beq k=false:=ao h.1
  simp[ym,this,zgL h.2]
def zco{α:Type 1}:∀(l l':List (Nat×α))(k:Nat),lk (l++l') k=match lk l k with|some x=>some x|none=>lk l' k
 |[],l',k=>rfl
 |(n,x)::r,l',k=>by
  simp only[wY,ym];cases n.beq k<;>simp[zco r l' k]
def FnE.intro{as:List AV}{ts:List (Nat×AV)}{r:ι->AV}{hs:List (Nat×Blk)}{x2:ι->List (Nat×Blk)}{cs:List AV}(hc:zy P f=true)(hf:P.funcs[f]? =some fn)(hb:fn.body=some c)(hn:fn.ntmps=n)(v0:fn.results=rv.toArray)
 (k9:zaE 0 as=ts)(k3:as.length<=n)(k2:(hs.all λp=>!(p.1.beq kN))=true)(w2:∀i,((x2 i).all λp=>!(p.1.beq kN))=true)(k8:kp.mapM (hdr hs)=some cs)(v9:∀i,kp.mapM (hdr (x2 i))=some cs)
 (h:∀g w d vs,X P (C0 n d g w) c ⟨ts,(kN,.hold vs cs)::hs⟩ (zm3 P (C0 n d g w) rv r vs cs x2)):FnE P f as hs kp r x2:=by
 refine⟨hc,λd ρ I O w args xT x1=>(callsIn_wide (n:=0)).1 (callsIn_of_wp_marks hf hb trivial ?_)⟩;subst k9;have j4:args.length=as.length:=x1.1;let C:=C0 n d ⟨ρ,I,O⟩ w
 have v8:Rel C ⟨zaE 0 as,(kN,.hold (kp.map ρ) cs)::hs⟩ ⟨ρ,I,O⟩ {tmps:=args.toArray++Array.replicate (fn.ntmps-args.toArray.size) undef,defers:=[]} w:=by
  refine⟨by simp[hn,C];omega,Dfs.nil _ _ _,λt x hx=>?_,⟨xT.im,xT.ob,λk B hB=>?_⟩,⟨Im.le_refl _,rfl,rfl,rfl,jG _,jG _,λ_ _ _ _=>⟨rfl,rfl⟩,λb y n _ hy=>⟨n,hy⟩⟩⟩
  ·obtain⟨_,v5⟩:=zdt (I:=I) (ρ:=ρ) as 0 t x hx;simp only[vY]at v5;have ht:t<args.length:=by grind
   have e:(args.toArray++Array.replicate (fn.ntmps-args.toArray.size) undef).getD t undef=args[t]:=by
    simp[jI,vN,ht]
   rw[e];exact x1.2 t x _ v5 (jC ht)
  ·simp only[ym]at hB;cases k7:kN.beq k<;>simp[k7]at hB
   ·exact(xT.blk k B hB).ctx
   ·subst hB;exact ziu (g:=⟨ρ,I,O⟩) xT k8
 refine wpIn_mono (h _ w d _ _ _ w v8) ?_
 rintro e a w'⟨st,g1,k6,he,i,ts',ex,v4,v3⟩
 obtain⟨g2,x0⟩:=v4 g1 a w' k6
 have v2:LeavesInM Fence.wide 0 P fn a.tmps (λe w'=>∃i v ρ' I' O',e=.returned v/\Sat (C0 0 d ⟨ρ,I,O⟩ w) (x2 i) ⟨ρ',I',O'⟩ w'/\RV I' ρ' (r i) v/\Ext (C0 0 d ⟨ρ,I,O⟩ w) ⟨ρ',I',O'⟩ w'/\∀n∈kp,ρ' n=ρ n) a.defers .returning w':=by
  obtain⟨D,hD,k5,k4⟩:=x0.defers;refine zbq (C:=C) v0 v3 rfl (λg3 w3 v G hv=>?_) D hD.plain k5 k4 ⟨x0.size,Dfs.nil _ _ _,x0.tmps,x0.sat,x0.ext⟩
  have v1:Sat (C0 0 d ⟨ρ,I,O⟩ w) (x2 i) g3 w3:=⟨G.sat.im,G.sat.ob,λk B hB=>by
   refine(G.sat.blk k B ?_).ctx
   have:kN.beq k=false:=by
    cases hb:kN.beq k
    ·rfl
    ·have:kN=k:=ao hb
     subst this;rw[zgL (w2 i)]at hB;simp at hB
   simp[ym,this,zco,hB]⟩
  have hh:=G.sat.blk kN (.hold (kp.map ρ) cs) (by simp[ym]);exact⟨i,v,g3.ρ,g3.I,g3.O,rfl,v1,hv,⟨G.ext.I,G.ext.os,G.ext.tape,G.ext.output,G.ext.drawn,G.ext.size,G.ext.keep,G.ext.own⟩,zgK (ρ:=ρ) v1 (v9 i) hh⟩
 rcases he with rfl|rfl<;>exact v2
def FnO.intro{as:List AV}{ts:List (Nat×AV)}{r:AV}{hs G:List (Nat×Blk)}{cs:List AV}(hc:zy P f=true)(hf:P.funcs[f]? =some fn)(hb:fn.body=some c)(hn:fn.ntmps=n)(x0:fn.results=rv.toArray)
 (w2:zaE 0 as=ts)(xT:as.length<=n)(v9:(hs.all λp=>!(p.1.beq kN))=true)(x2:(G.all λp=>!(p.1.beq kN))=true)(v8:kp.mapM (hdr hs)=some cs)(x1:kp.mapM (hdr G)=some cs)
 (h:∀g w d vs,X P (C0 n d g w) c ⟨ts,(kN,.hold vs cs)::hs⟩ (zm4 P (C0 n d g w) rv r vs cs G)):FnO P f as hs kp r G:=
 (FnE.intro hc hf hb hn x0 w2 xT v9 (λ_=>x2) v8 (λ_=>x1) λg w d vs=>X.mono (h g w d vs) λe st⟨he,ts',h1,h2⟩=>⟨he,(),ts',[],by rw[wQ];exact h1,by rw[wQ];exact h2⟩).one
end Go.Rse
namespace Go.Rse
open Go Go.RowKit
variable{E:Ending->Value->Prop}{L:List Nat}{P:Program}{R:Ending->World->Prop}{T:Array Value->World->(Ending->World->Prop)->Prop}{a:Act}{ch:List Nat}{dst:Option Tmp}{f:FuncId}{g g':Gh}{k:Nat}{kp:List Nat}{n:Nat}{st:St}{vals:List Value}{w:World}{ι:Type}{μ:List (Nat×Nat)}
def inO(O:Owns)(d dc:Nat)(μ:List (Nat×Nat)):Owns:=λb=>match O b with
 |some (y,k)=>if y=d then(match bwd μ k with|some n=>some (dc,n)|none=>some (y,k))else some (y,k)
 |none=>none
def outO(O:Owns)(d dc:Nat)(μ:List (Nat×Nat)):Owns:=λb=>match O b with
 |some (y,n)=>if y=dc then(match fwd μ n with|some k=>some (d,k)|none=>none)else some (y,n)
 |none=>none
def outB(μ:List (Nat×Nat)):List (Nat×Blk)->List (Nat×Blk)
 |[]=>[]
 |(n,B)::r=>((fwd μ n).getD 0,B.renB μ)::outB μ r
def zfo(μ:List (Nat×Nat))(G:List (Nat×Blk)):List (Nat×Blk)->List (Nat×Blk)
 |[]=>[]
 |(n,B)::r=>bif(G.any λp=>p.1.beq n)then zfo μ G r else((fwd μ n).getD 0,.dead)::zfo μ G r
def zaq(st:St)(μ:List (Nat×Nat))(L:List Nat):List (Nat×Blk)->Prop
 |[]=>True
 |(n,B)::r=>(∃k B',fwd μ n=some k/\lk st.h k=some B'/\LeB B' (B.renB μ)/\B.okNB L=true)/\zaq st μ L r
def zjy{st:St}{μ:List (Nat×Nat)}{L:List Nat}:∀{hs:List (Nat×Blk)},zaq st μ L hs->∀{n:Nat}{B:Blk},lk hs n=some B->∃k B',fwd μ n=some k/\lk st.h k=some B'/\LeB B' (B.renB μ)/\B.okNB L=true
 |[],_,_,_,h=>by simp[lk]at h
 |(m,B0)::r,h,n,B,e=>by
  simp only[ym]at e;cases G:m.beq n<;>simp[G]at e
  ·exact zjy h.2 e
  ·have:m=n:=ao G
   subst this;subst e;exact h.1
def yM.move{C C':Ctx}{B:Blk}(h:yM C g w n B)(hn:B.nm=true)(hI:g'.I=g.I)(hρ:g'.ρ k=g.ρ n)(G:∀b,g.O b=some (C.d,n)->g'.O b=some (C'.d,k)/\C'.okb b):yM C' g' w k B:=by
 cases B with
 |box cs E=>
  obtain⟨b,vs,h1,h2,h3,h4,h5,h6⟩:=h;exact⟨b,vs,hρ.trans h1,(G b h2).1,(G b h2).2,h4,h5,λj c v hc hv=>by rw[hI];exact(h6 j c v hc hv).forget (zw hn hc)⟩
 |row enc l E s=>
  grind[yM]
 |hold vs cs=>simp[Blk.nm]at hn
 |obj b o=>simp[Blk.nm]at hn
 |yld j on=>simp[Blk.nm]at hn
 |mpb kenc venc l=>
  grind[yM]
 |dead=>trivial
def zj8{C C':Ctx}{B:Blk}(h:yM C g w k (B.renB μ))(hn:B.okNB L=true)(hI:g'.I=g.I)(hρ:g'.ρ n=g.ρ k)(hc:∀x v,AV.okN L x=true->RV g.I g.ρ (x.ren μ) v->RV g.I g'.ρ x v)(hO:∀b,g.O b=some (C.d,k)->g'.O b=some (C'.d,n)/\C'.okb b):yM C' g' w n B:=by
 cases B with
 |box cs E=>
  obtain⟨b,vs,h1,G,h3,h4,h5,h6⟩:=h
  exact⟨b,vs,hρ.trans h1,(hO b G).1,(hO b G).2,h4,by simpa using h5,λj c v xT hv=>by
   rw[hI];exact hc c v (jF.1 hn c (j6 xT)) (h6 j _ v ak hv)⟩
 |row enc l E s=>
  obtain⟨xs,h1,G,h3,h4⟩:=h
  grind[yM]
 |hold vs cs=>simp[Blk.okNB]at hn
 |obj b o=>simp[Blk.okNB]at hn
 |yld j on=>simp[Blk.okNB]at hn
 |mpb kenc venc l=>
  obtain⟨b,es,ck,h1,G,h3,h4,h5,h6⟩:=h
  grind[yM]
 |dead=>trivial
def zjz{C C':Ctx}{B:Blk}(h:yM C g w n B)(hn:B.okNB L=true)(hI:g'.I=g.I)(hρ:g'.ρ k=g.ρ n)(G:∀x v,AV.okN L x=true->RV g.I g.ρ x v->RV g.I g'.ρ (x.ren μ) v)(hO:∀b,g.O b=some (C.d,n)->g'.O b=some (C'.d,k)/\C'.okb b):yM C' g' w k (B.renB μ):=by
 cases B<;>grind[Blk.okNB,yM,Blk.renB]
def zpG{μ:List (Nat×Nat)}(hμ:biOk μ=true):∀{hs:List (Nat×Blk)}{k:Nat}{B:Blk},(∀p∈hs,(fwd μ p.1).isSome=true)->lk (outB μ hs) k=some B->∃n B1,fwd μ n=some k/\lk hs n=some B1/\B=B1.renB μ
 |[],_,_,_,h=>by simp[outB,lk]at h
 |(n,B0)::r,k,B,hk,h=>by
  simp only[outB,ym]at h;obtain⟨k0,G⟩:=u9.1 (hk (n,B0) ah);have G:fwd μ n=some k0:=G;simp only[G,xN]at h;cases hb:k0.beq k<;>simp[hb]at h
  ·obtain⟨m,B1,h1,h2,h3⟩:=zpG hμ (λp hp=>hk p (by simp[hp])) h
   grind[ym,beqF]
  ·have:k0=k:=ao hb
   subst this;exact⟨n,B0,G,by simp[ym],h.symm⟩
theorem zfJ{μ:List (Nat×Nat)}{G:List (Nat×Blk)}:∀{hs:List (Nat×Blk)}{k:Nat}{B:Blk},lk (zfo μ G hs) k=some B->B=.dead
 |[],_,_,h=>by simp[zfo,lk]at h
 |(n,B0)::r,k,B,h=>by
  simp only[zfo]at h;cases hb:(G.any λp=>p.1.beq n)<;>simp[hb]at h
  ·simp only[ym]at h;cases xT:Nat.beq ((fwd μ n).getD 0) k<;>simp[xT]at h
   ·exact zfJ h
   ·exact h.symm
  ·exact zfJ h
def zjA{α:Type 1}:∀{l:List (Nat×α)}{n:Nat},(l.any λp=>p.1.beq n)=true↔∃x,lk l n=some x
 |[],n=>by simp[lk]
 |(m,y)::r,n=>by
  simp only[List.any_cons,wL,ym];cases G:m.beq n;all_goals simp[zjA]
def zkC{μ:List (Nat×Nat)}{G:List (Nat×Blk)}{n k:Nat}(hk:fwd μ n=some k):∀{hs:List (Nat×Blk)},(∃B,lk hs n=some B)->lk G n=none->∃B,lk (zfo μ G hs) k=some B
 |[],⟨B,h⟩,_=>by simp[lk]at h
 |(m,B0)::r,⟨B,h⟩,hn=>by
  simp only[ym]at h;simp only[zfo];cases hb:m.beq n<;>simp[hb]at h
  ·obtain⟨B',x2⟩:=zkC hk ⟨B,h⟩ hn
   grind[ym]
  ·have:m=n:=ao hb
   subst this
   have xT:(G.any λp=>p.1.beq m)=false:=by
    cases hc:(G.any λp=>p.1.beq m)
    ·rfl
    ·obtain⟨x,hx⟩:=zjA.1 hc;rw[hn]at hx;simp at hx
   simp only[xT,cond_false,ym,hk,xN];simp_all
def zs2{α:Type 1}:∀{l:List (Nat×α)}{n:Nat}{x:α},lk l n=some x->(n,x)∈l
 |[],_,_,h=>by simp[lk]at h
 |(m,y)::r,n,x,h=>by
  simp only[ym]at h;cases G:m.beq n<;>simp[G]at h
  ·exact wA _ (zs2 h)
  simp_all
def zm5{μ:List (Nat×Nat)}{n k:Nat}(hk:fwd μ n=some k):∀{hs:List (Nat×Blk)},(∃B,lk hs n=some B)->∃B,lk (outB μ hs) k=some B
 |[],⟨B,h⟩=>by simp[lk]at h
 |(m,B0)::r,⟨B,h⟩=>by
  simp only[ym]at h;simp only[outB,ym];cases G:Nat.beq ((fwd μ m).getD 0) k
  ·cases hb:m.beq n<;>simp[hb]at h
   ·simpa using zm5 hk ⟨B,h⟩
   ·have:m=n:=ao hb
    subst this;rw[hk]at G;simp at G
  simp
def yM.held{C:Ctx}{w':World}{B:Blk}(h:yM C g w k B)(hI:Im.le g.I g'.I)(hb:∀b,b<w.heap.size->g.O b=some (C.d,k)->w'.heap[b]? =w.heap[b]? /\g'.O b=g.O b)
 (hρ:g'.ρ k=g.ρ k)(hv:∀x v,(∀k∈ch,AV.fr k x=true)->RV g.I g.ρ x v->RV g.I g'.ρ x v)(hf:∀k∈ch,B.fr k=true)(hy:∀j on,B=.yld j on->yM C g' w' k B):yM C g' w' k B:=by
 cases B with
 |box cs E=>
  obtain⟨b,vs,h1,h2,h3,h4,h5,h6⟩:=h;obtain⟨e1,e2⟩:=hb b (zb h4) h2;exact⟨b,vs,hρ.trans h1,e2.trans h2,h3,e1.trans h4,h5,λj c v G xT=>(hv c v (λk hk=>zo (by simpa[Blk.fr]using hf k hk) G) (h6 j c v G xT)).mono hI⟩
 |row enc l E s=>
  obtain⟨xs,h1,h2,h3,h4⟩:=h;refine⟨xs,?_,h2,λi x j c v hx G xT=>(h3 i x j c v hx G xT).mono hI,λb x2=>?_⟩
  ·rw[hρ];obtain⟨p1,p2⟩:=h1;refine⟨p1,?_⟩;rcases p2 with p2|⟨b,cap,cur,hv,x2,hh,r⟩
   ·exact .inl p2
   ·have:=h4 b (by rw[hv];rfl);exact .inr ⟨b,cap,cur,hv,x2,(hb b (zb hh) this.1).1.trans hh,r⟩
  grind[zbR]
 |hold vs cs=>exact⟨h.1,λj c v G xT=>(hv c v (λk hk=>zo (by simpa[Blk.fr]using hf k hk) G) (h.2 j c v G xT)).mono hI⟩
 |obj b o=>
  grind[yM]
 |yld j on=>exact hy j on rfl
 |mpb kenc venc l=>
  obtain⟨b,es,ck,h1,h2,h3,h4,h5,h6⟩:=h;obtain⟨e1,e2⟩:=hb b (zb h4) h2;exact⟨b,es,ck,hρ.trans h1,e2.trans h2,h3,e1.trans h4,h5,λi e p he hp=>⟨(h6 i e p he hp).1.mono hI,(h6 i e p he hp).2.mono hI⟩⟩
 |dead=>trivial
def za5(st:St)(μ:List (Nat×Nat))(hs G:List (Nat×Blk))(d:Option Nat)(r:AV):St:=⟨consT d (r.ren μ) st.t,outB μ G++(zfo μ G hs++st.h)⟩
def FnR(P:Program)(f:FuncId)(as:List AV)(hs:List (Nat×Blk))(kp:List Nat)(E:Ending->Value->Prop)(r:AV)(hs':List (Nat×Blk)):Prop:=
 zy P f=true/\∀(d:Nat)(ρ:Nat->Value)(I:Im)(O:Owns)(w:World)(args:List Value),Sat (C0 0 d ⟨ρ,I,O⟩ w) hs ⟨ρ,I,O⟩ w->RVL I ρ as args→
  Calls P f args.toArray w λe w'=>∃v ρ' I' O',E e v/\Sat (C0 0 d ⟨ρ,I,O⟩ w) hs' ⟨ρ',I',O'⟩ w'/\RV I' ρ' r v/\Ext (C0 0 d ⟨ρ,I,O⟩ w) ⟨ρ',I',O'⟩ w'/\∀n∈kp,ρ' n=ρ n
def FnO.r{as:List AV}{hs G:List (Nat×Blk)}{r:AV}(h:FnO P f as hs kp r G):FnR P f as hs kp (λe v=>e=.returned v) r G:=h
def core_TE(hT:∀{A w R R'},T A w R->(∀e w',R e w'->R' e w')->T A w R'){C:Ctx}{as:List AV}{hs:List (Nat×Blk)}{G:ι->List (Nat×Blk)}{r:ι->AV}
 (μ:List (Nat×Nat))(h:∀(d:Nat)(ρ:Nat->Value)(I:Im)(O:Owns)(w:World)(args:List Value),Sat (C0 0 d ⟨ρ,I,O⟩ w) hs ⟨ρ,I,O⟩ w->RVL I ρ as args→
  T args.toArray w λe w'=>∃i v ρ' I' O',E e v/\Sat (C0 0 d ⟨ρ,I,O⟩ w) (G i) ⟨ρ',I',O'⟩ w'/\RV I' ρ' (r i) v/\Ext (C0 0 d ⟨ρ,I,O⟩ w) ⟨ρ',I',O'⟩ w'/\∀n∈kp,ρ' n=ρ n)
 (hμ:biOk μ=true)(k4:as.all (AV.okN (keys hs))=true)(v3:∀i,(r i).okN (keys (G i))=true)
 (h8:zaq st μ (keys hs) hs)(x2:∀i,∀p∈G i,(fwd μ p.1).isSome=true/\p.2.okNB (keys (G i))=true)(x1:∀i,∀p∈μ,kp.any (·.beq p.1)=true\/(hs.any (·.1.beq p.1)=true/\(G i).any (·.1.beq p.1)=false)\/(hs.any (·.1.beq p.1)=false/\st.fr p.2=true))
 (k2:∀n∈kp,hs.any (·.1.beq n)=true)(hd:dOk C.n dst=true)(hr:Rel C st g a w)(v0:RVL g.I g.ρ (as.map (AV.ren μ)) vals)
 (hR:∀i e w' v g',E e v->Rel C (za5 st μ hs (G i) dst (r i)) g' (a.put dst v) w'->R e w'):T vals.toArray w R:=by
 obtain⟨dc,hdc,j4⟩:=zcI g.O w.heap.size (C.d::C.ds) hr.sat.ob.1;have hdcd:C.d≠dc:=λe=>j4 (by simp[e])
 have hdcs:dc∉C.ds:=λe=>j4 (by simp[e])
 --the callee's view
 let ρc:Nat->Value:=λn=>g.ρ ((fwd μ n).getD 0)
 let Oc:=inO g.O C.d dc μ
 have j3:∀b n,Oc b=some (dc,n)↔∃k,g.O b=some (C.d,k)/\bwd μ k=some n:=λb n=>by
  grind[inO]
 have j2:∀b,(∀n,Oc b≠some (dc,n))->Oc b=g.O b:=λb hb=>by
  grind[inO]
 have hOcnone:∀b,g.O b=none->Oc b=none:=λb hb=>by simp[Oc,inO,hb]
 have j1:Sat (C0 0 dc ⟨ρc,g.I,Oc⟩ w) hs ⟨ρc,g.I,Oc⟩ w:=by
  refine⟨λb o v hI=>⟨(hr.sat.im b o v hI).1,hOcnone b (hr.sat.im b o v hI).2⟩,⟨λb k hO=>?_,hr.sat.ob.2⟩,λn B hB=>?_⟩
  ·cases hO':g.O b with
   |none=>simp_all
   |some p=>exact hr.sat.ob.1 b p hO'
  ·obtain⟨k,B',h1,h2,h3,h4⟩:=zjy h8 hB;refine zj8 (C:=C) (k:=k) (μ:=μ) (L:=keys hs) (h3 C g w k (hr.sat.blk k B' h2)) h4 rfl (by simp[ρc,h1]) (λx v hx hv=>zs1 (μ:=μ) (ρ':=g.ρ) (L:=keys hs) (λn _=>rfl) hx hv) (λb hb=>?_)
   grind[zm2,Ctx.okb]
 have j0:RVL g.I ρc as vals:=by
  refine⟨by rw[v0.1];simp,λj c v hc hv=>?_⟩;exact zs1 (μ:=μ) (ρ':=g.ρ) (L:=keys hs) (λn _=>rfl) (jF.1 k4 c (j6 hc)) (v0.2 j _ v ak hv)
 refine hT (h dc ρc g.I Oc w _ j1 j0) ?_
 rintro e w'⟨i,v,ρ',I',O',hEe,x0,hv1,xT,hkp1⟩
 have hR:=hR i;have v3:=v3 i;have x2:=x2 i;have x1:=x1 i;generalize G i=G at hR v3 x2 x1 x0;generalize r i=r at hR v3 hv1
 --the caller's view again
 let On:=outO O' C.d dc μ
 let ρn:Nat->Value:=λk=>match bwd μ k with
  |some n=>if G.any (·.1.beq n)=true then ρ' n else g.ρ k
  |none=>g.ρ k
 have hZ:∀b n k,O' b=some (dc,n)->fwd μ n=some k->On b=some (C.d,k):=λb n k h1 h2=>by simp[On,outO,h1,h2]
 have hOn2:∀b y n,O' b=some (y,n)->y≠dc->On b=some (y,n):=λb y n h1 h2=>by simp[On,outO,h1,h2]
 have hY:∀b,O' b=none->On b=none:=λb h1=>by simp[On,outO,h1]
 have k9:∀b y k,On b=some (y,k)->(y=C.d/\∃n,O' b=some (dc,n))\/(y≠dc/\O' b=some (y,k)):=λb y k hb=>by
  grind[outO]
 --what the callee k4 left
 have w2:∀b,b<w.heap.size->(∀n,Oc b≠some (dc,n))->w'.heap[b]? =w.heap[b]? /\On b=g.O b:=λb hb v2=>by
  obtain⟨p1,p2⟩:=xT.keep b hb (λhk=>by
   rcases hk with hk|⟨n,hk⟩
   ·exact absurd hk (kH.2 hb)
   ·exact v2 n hk) (λ⟨y,n,hy,_⟩=>by simp at hy)
  have p2:O' b=Oc b:=p2;rw[j2 b v2]at p2;refine⟨p1,?_⟩;cases hO:g.O b<;>grind
 have h9:∀b y k,g.O b=some (y,k)->y≠C.d->∀n,Oc b≠some (dc,n):=λb y k hO hy n hn=>by
  simp_all
 have v8:ImO I' On w':=by
  refine⟨λb o u hI=>⟨(x0.im b o u hI).1,hY b (x0.im b o u hI).2⟩,λb k hO=>?_,x0.ob.2⟩;rcases k9 b k.1 k.2 hO with⟨_,n,hn⟩|⟨_,hn⟩
  ·exact x0.ob.1 b _ hn
  ·exact x0.ob.1 b _ hn
 have k8:∀b y n,b<w.heap.size->On b=some (y,n)->∃n',g.O b=some (y,n'):=λb y n hb hO=>by
  rcases k9 b y n hO with⟨rfl,m,hm⟩|⟨hy,hm⟩
  ·grind
  ·obtain⟨n',v9⟩:=xT.own b y n hb hm
   grind
 --names whose meaning k4 changed are new
 let ch:=(μ.filter λp=>!(hs.any (·.1.beq p.1))).map (·.2)
 have hch:∀k∈ch,st.fr k=true:=λk hk=>by
  obtain⟨p,hp,rfl⟩:=jS.1 hk;rw[wG]at hp;have h2:hs.any (·.1.beq p.1)=false:=ao hp.2
  rcases x1 p hp.1 with h1|h1|h1
  ·obtain⟨n,hn,e⟩:=vB.1 h1;have:n=p.1:=ao e
   rw[←this,k2 n hn]at h2;simp at h2
  all_goals grind
 have hρn:∀k,k∉ch->ρn k=g.ρ k:=λk hk=>by
  simp only[ρn];cases hb:bwd μ k with
  |none=>rfl
  |some n=>
   have hf:=(zm2 hμ).2 hb;simp only;split
   ·rename_i ho;have hm:=zir hb;rcases x1 (n,k) hm with h1|h1|h1
    ·obtain⟨m,hX,e⟩:=vB.1 h1;have:m=n:=ao e
     grind
    ·simp_all
    ·exact absurd (jS.2 ⟨(n,k),wG.2 ⟨hm,by grind⟩,rfl⟩) hk
   ·rfl
 have hW:∀t x,lk st.t t=some x->∀k∈ch,x.fr k=true:=λt x hx k hk=>zjl (by simp_all[St.fr]) hx
 have k7:∀n B,lk st.h n=some B->∀k∈ch,B.fr k=true/\n≠k:=λn B hB k hk=>zb9 (by simp_all[St.fr]) hB
 have htm:∀t x,lk st.t t=some x->RV I' ρn x (a.tmps.getD t undef):=λt x hx=>((hr.tmps t x hx).renameL (hW t x hx) hρn).mono xT.I
 have v5:Ext C ⟨ρn,I',On⟩ w':=by
  refine⟨Im.le_trans hr.ext.I xT.I,xT.os.trans hr.ext.os,xT.tape.trans hr.ext.tape,xT.output.trans hr.ext.output,jV hr.ext.drawn xT.drawn,jV hr.ext.size xT.size,λb hb hn ho=>?_,λb y n hb hO=>?_⟩
  ·obtain⟨p1,p2⟩:=hr.ext.keep b hb hn ho
   obtain⟨q1,q2⟩:=w2 b (w7 hb hr.ext.size) (λn v9=>by
    obtain⟨k,h1,_⟩:=(j3 b n).1 v9;exact hn (hr.ext.okb b k h1))
   simp_all
  ·obtain⟨n',v9⟩:=k8 b y n (w7 hb hr.ext.size) hO;exact hr.ext.own b y n' hb v9
 have hQ:Dfs C ⟨ρn,I',On⟩ a.defers w':=by
  obtain⟨D,p1,hn,p2⟩:=hr.defers
  grind[Dfs]
 have hG:∀n∈keys G,ρn ((fwd μ n).getD 0)=ρ' n:=λn hn=>by
  obtain⟨p,hp,rfl⟩:=jS.1 hn;obtain⟨k,hk⟩:=u9.1 (x2 p hp).1;simp only[hk,xN,ρn,(zm2 hμ).1 hk];rw[j7 (vB.2 ⟨p,hp,ah⟩)]
 have k6:∀k B,lk (outB μ G++(zfo μ G hs++st.h)) k=some B->yM C ⟨ρn,I',On⟩ w' k B:=λk B hB=>by
  rw[zco]at hB;cases v1:lk (outB μ G) k with
  |some B1=>
   simp only[v1]at hB;injection hB with hB;subst hB;obtain⟨n,B2,h1,h2,rfl⟩:=zpG hμ (λp hp=>(x2 p hp).1) v1;have hF:∃p∈G,p.1=n/\p.2=B2:=⟨_,zs2 h2,rfl,rfl⟩;obtain⟨p,hp,rfl,rfl⟩:=hF;have hin':G.any (·.1.beq p.1)=true:=zjA.2 ⟨_,h2⟩;refine zjz (C:=C0 0 dc ⟨ρc,g.I,Oc⟩ w) (g:=⟨ρ',I',O'⟩) (n:=p.1) (L:=keys G) (x0.blk p.1 p.2 h2) (x2 p hp).2 rfl ?_ (λx v hx hv=>zs0 (L:=keys G) hG hx hv) (λb hb=>?_)
   ·grind[zm2]
   ·have:=hZ b p.1 k hb h1;exact⟨this,v5.okb b k this⟩
  |none=>
   simp only[v1]at hB;rw[zco]at hB;cases hC:lk (zfo μ G hs) k with
   |some B1=>
    grind[zfJ,yM]
   |none=>
    simp only[hC]at hB;have h0:=hr.sat.blk k B hB
    --k is none of those handed over
    have hnk:∀b,g.O b=some (C.d,k)->∀n,Oc b≠some (dc,n):=λb hb n hn=>by
     obtain⟨k',h1,h2⟩:=(j3 b n).1 hn;rw[hb]at h1;injection h1 with h1;injection h1 with _ h1;subst h1;have hf:=(zm2 hμ).2 h2
     have v2:¬∃B,lk G n=some B:=λho=>by
      obtain⟨B2,v4⟩:=zm5 hf ho;rw[v1]at v4;simp at v4
     have k5:¬∃B,lk hs n=some B:=λho=>by
      have hn0:lk G n=none:=by
       cases hc:lk G n with
       |none=>rfl
       |some x=>exact absurd ⟨x,hc⟩ v2
      obtain⟨B2,v4⟩:=zkC hf ho hn0;rw[hC]at v4;simp at v4
     rcases x1 (n,k) (zir h2)with h1|h1|h1
     ·obtain⟨m,hX,e⟩:=vB.1 h1;have:m=n:=ao e
      subst this;exact k5 (zjA.1 (k2 m hX))
     ·exact k5 (zjA.1 h1.1)
     ·have:=h1.2;simp[St.fr]at this;exact(zb9 this.2 hB).2 rfl
    have k3:k∉ch:=λhk=>(k7 k B hB k hk).2 rfl
    refine h0.held xT.I (λb hb hO=>w2 b hb (hnk b hO)) (hρn k k3) (λx v hx hv=>hv.renameL hx hρn) (λk' k3=>(k7 k B hB k' k3).1) ?_;intro j on hBy;subst hBy;obtain⟨h1,h2,h3,h4,h5⟩:=h0;refine⟨h1,h2,h3,λb n hO=>?_,h2 j on _ _ _ _ _ _ h5 xT.I (λb hb hy=>w2 b hb (λn hn=>?_)) xT.os xT.tape xT.output xT.drawn xT.size v8⟩
    ·rcases wH b w.heap.size with hl|hl
     ·obtain⟨n',v9⟩:=k8 b C.d n hl hO;exact h4 b n' v9
     ·have:=hr.ext.size;omega
    grind
 have hv2:RV I' ρn (r.ren μ) v:=by
  grind[zs0]
 refine hR e w' v ⟨ρn,I',On⟩ hEe ?_;show Rel C (za5 st μ hs G dst r) ⟨ρn,I',On⟩ (a.put dst v) w';cases dst with
 |none=>exact⟨hr.size,hQ,htm,⟨v8.1,v8.2,k6⟩,v5⟩
 |some d=>
  refine⟨by simp[Act.put,hr.size],hQ,λt y hy=>?_,⟨v8.1,v8.2,k6⟩,v5⟩;rw[zaS (by rw[hr.size];simpa[dOk]using hd)]
  grind[za5,consT,ym,beqF]
def zn9(hT:∀{A w R R'},T A w R->(∀e w',R e w'->R' e w')->T A w R'){C:Ctx}{as:List AV}{hs G:List (Nat×Blk)}{r:AV}
 (μ:List (Nat×Nat))(h:∀(d:Nat)(ρ:Nat->Value)(I:Im)(O:Owns)(w:World)(args:List Value),Sat (C0 0 d ⟨ρ,I,O⟩ w) hs ⟨ρ,I,O⟩ w->RVL I ρ as args→
  T args.toArray w λe w'=>∃v ρ' I' O',E e v/\Sat (C0 0 d ⟨ρ,I,O⟩ w) G ⟨ρ',I',O'⟩ w'/\RV I' ρ' r v/\Ext (C0 0 d ⟨ρ,I,O⟩ w) ⟨ρ',I',O'⟩ w'/\∀n∈kp,ρ' n=ρ n)
 (hμ:biOk μ=true)(x0:as.all (AV.okN (keys hs))=true)(w2:r.okN (keys G)=true)
 (v9:zaq st μ (keys hs) hs)(xT:∀p∈G,(fwd μ p.1).isSome=true/\p.2.okNB (keys G)=true)(x2:∀p∈μ,kp.any (·.beq p.1)=true\/(hs.any (·.1.beq p.1)=true/\G.any (·.1.beq p.1)=false)\/(hs.any (·.1.beq p.1)=false/\st.fr p.2=true))
 (v8:∀n∈kp,hs.any (·.1.beq n)=true)(hd:dOk C.n dst=true)(hr:Rel C st g a w)(x1:RVL g.I g.ρ (as.map (AV.ren μ)) vals):
 T vals.toArray w λe w'=>∃v g',E e v/\Rel C (za5 st μ hs G dst r) g' (a.put dst v) w':=
 core_TE (T:=T) (E:=E) (ι:=Unit) (G:=λ_=>G) (r:=λ_=>r) (λa b=>hT a b) μ (λd ρ I O w args h1 h2=>hT (h d ρ I O w args h1 h2) λe w'⟨v,ρ',I',O',q⟩=>⟨(),v,ρ',I',O',q⟩) hμ x0 (λ_=>w2) v9 (λ_=>xT) (λ_=>x2) v8 hd hr x1 λ_ e w' v g' h1 h2=>⟨v,g',h1,h2⟩
def zhl{P:Program}{C:Ctx}{st:St}{E:Ending->Value->Prop}{dst:Option Tmp}{ty:TypeId}{fop:Operand}{args:Array Operand}{ts:Array TypeId}{f:FuncId}{caps xs as:List AV}{hs G:List (Nat×Blk)}{kp:List Nat}{r:AV}
 (μ:List (Nat×Nat))(h:FnR P f as hs kp E r G)(hf:ev st fop=some (.fn f caps))(hx:evs st args.toList=some xs)(hμ:biOk μ=true)(w2:LeL (xs++caps) (as.map (AV.ren μ)))(v9:as.all (AV.okN (keys hs))=true)(v8:r.okN (keys G)=true)
 (v5:zaq st μ (keys hs) hs)(x2:∀p∈G,(fwd μ p.1).isSome=true/\p.2.okNB (keys G)=true)(x1:∀p∈μ,kp.any (·.beq p.1)=true\/(hs.any (·.1.beq p.1)=true/\G.any (·.1.beq p.1)=false)\/(hs.any (·.1.beq p.1)=false/\st.fr p.2=true))
 (v4:∀n∈kp,hs.any (·.1.beq n)=true)(hd:dOk C.n dst=true){g:Gh}{a:Act}{w:World}(hr:Rel C st g a w):
 ∃A,(∀pos af gd,(execOp a.eval {dst:=dst,op:=.call {callee:=.value fop,args:=args,argTypes:=ts},type:=ty,pos:=pos,after:=af,guard:=gd}).run P w=.ok (.enter f A) w)∧
  Calls P f A w λe w'=>∃v g',E e v/\Rel C (za5 st μ hs G dst r) g' (a.put dst v) w':=by
 obtain⟨us,e,hl,hu⟩:=zcE (yq hr hf);have xT:=zdP hr hx;have x0:RVL g.I g.ρ (as.map (AV.ren μ)) (args.toList.map a.eval++us):=w2.rvl (xT.append ⟨hl,hu⟩);refine⟨_,λpos af gd=>?_,zn9 (T:=Calls P f) (λh hm=>Calls.mono h hm) μ h.2 hμ v9 v8 v5 x2 x1 v4 hd hr x0⟩;have e1:(args.toList.map a.eval++us).toArray=args.map a.eval++us.toArray:=ak
 simp only[execOp,resolve,e,Deferred.ofValue,jM,jP,jH,invoke,zN h.1,e1];simp
def zs3{P:Program}{C:Ctx}{ops:Array Oper}{st:St}{Q:Exit->St->Prop}{rest:List Oper}{dst:Option Tmp}{ty:TypeId}{pos:String}{af:Array Edge}{fop:Operand}{args:Array Operand}{ts:Array TypeId}{f:FuncId}{caps xs as:List AV}{hs G:List (Nat×Blk)}{kp:List Nat}{r:AV}
 (μ:List (Nat×Nat))(h:FnO P f as hs kp r G)(hf:ev st fop=some (.fn f caps))(hx:evs st args.toList=some xs)(hμ:biOk μ=true)(x1:LeL (xs++caps) (as.map (AV.ren μ)))(x0:as.all (AV.okN (keys hs))=true)(w2:r.okN (keys G)=true)
 (v9:zaq st μ (keys hs) hs)(xT:∀p∈G,(fwd μ p.1).isSome=true/\p.2.okNB (keys G)=true)(x2:∀p∈μ,kp.any (·.beq p.1)=true\/(hs.any (·.1.beq p.1)=true/\G.any (·.1.beq p.1)=false)\/(hs.any (·.1.beq p.1)=false/\st.fr p.2=true))
 (v8:∀n∈kp,hs.any (·.1.beq n)=true)(hd:dOk C.n dst=true)(hq:Ex P C ops rest (za5 st μ hs G dst r) Q):
 Ex P C ops ({dst:=dst,op:=.call {callee:=.value fop,args:=args,argTypes:=ts},type:=ty,pos:=pos,after:=af,guard:=none}::rest) st Q:=λg a w hr=>
 wpListIn_plain rfl λK hK=>zaf<|by
 obtain⟨A,e2,h0⟩:=zhl (dst:=dst) (ty:=ty) (ts:=ts) μ h.r hf hx hμ x1 x0 w2 v9 xT x2 v8 hd hr;unfold wp1;rw[e2];refine Calls.mono h0 ?_
 rintro e w'⟨v,g',rfl,v5⟩
 exact⟨v,rfl,hK _ _ (hq g' _ w' v5)⟩
end Go.Rse
namespace Go.Rse
open Go Go.RowKit
variable{I:Im}{s:Nat}{xs:List Value}{α:Type}{l:List α}
def zcW{enc:α->List AV}(hs:∀(i:Nat)x,l[i]? =some x->(enc x).length=s)(hl:xs.length=l.length*s)
 (h:∀(i:Nat)x(j:Nat)c v,l[i]? =some x->(enc x)[j]? =some c->xs[i*s+j]? =some v->RV I noNames c v)(G:0<s):RVL I noNames (l.flatMap enc) xs:=by
 refine⟨by rw[hl,zq l hs],λj c v hc hv=>?_⟩;have hj:j<l.length*s:=by rw[←zq l hs];exact(j5.1 hc).1
 have hq:j/s<l.length:=vE (by rw[u3];exact hj);have xT:j/s*s+j%s=j:=by rw[u3];exact vT j s
 have x2:j%s<s:=xY _ G;have hp:=jC hq
 grind[zdr]
def zm6{enc:α->List AV}(he:∀x,(enc x).length=s)(l l2:List α)(i:Nat)(xT:i+l2.length<=l.length):
 (l.take i++l2++l.drop (i+l2.length)).flatMap enc=setAt (l.flatMap enc) (i*s) (l2.flatMap enc):=by
 have h1:(l.take i).flatMap enc=(l.flatMap enc).take (i*s):=by
  have G:((l.take i).flatMap enc).length=i*s:=by rw[zq _ (λ_ x _=>he x),jO,kO aa]
  have:l.flatMap enc=(l.take i).flatMap enc++(l.drop i).flatMap enc:=by rw[←uG,wV]
  rw[this,wM (kF G.symm),wE (kF G)]
 have h2:∀m,m<=l.length->(l.drop m).flatMap enc=(l.flatMap enc).drop (m*s):=λm hm=>by
  have G:((l.take m).flatMap enc).length=m*s:=by rw[zq _ (λ_ x _=>he x),jO,kO hm]
  have:l.flatMap enc=(l.take m).flatMap enc++(l.drop m).flatMap enc:=by rw[←uG,wV]
  rw[this,List.drop_append_of_le_length (kF G.symm),wT (kF G)];rfl
 grind[setAt,zq,Nat.add_mul]
section
variable{P:Program}{C:Ctx}{st:St}{ty:TypeId}
variable{E:TypeId}{a:Act}{ag:Bool}{bytes:Nat}{g:Gh}{k:Nat}{kk:IntKind}{s:Nat}{t:TypeId}{vs:List Value}{w:World}{x y:Operand}{z:Value}{α:Type}{l:List α}
def Rel.row_write(hr:Rel C st g a w){enc:α->List AV}{l2:List α}{i b:Nat}(hk:lk st.h k=some (.row enc l E s))(he:∀x,(enc x).length=s)(v5:0<s)
 (xT:RVL g.I noNames (l2.flatMap enc) vs)(x1:∀u∈vs,u.oneCell'=true)(x0:i+l2.length<=l.length)(hb:yT (g.ρ k)=some b):
 ∃w',(storeCells ⟨b,i*s,none⟩ vs 0).run P w=.ok () w'/\Rel C (putH st k (.row enc (l.take i++l2++l.drop (i+l2.length)) E s)) g a w':=by
 obtain⟨xs,hw,h1,h2,h3⟩:=hr.sat.blk k _ hk;rcases hw.2 with⟨hv,_⟩|⟨b',cap,cur,hv,v4,hh,w2,v3,v9,v2⟩
 ·simp_all[yT]
 ·have:b'=b:=by rw[hv]at hb;simpa[yT]using hb
  subst this;have v1:vs.length=l2.length*s:=by rw[xT.1,zq l2 (λ_ x _=>he x)]
  have k7:l.length*s<=cap*s:=jX s w2;have v0:i*s+l2.length*s<=l.length*s:=by rw[←Nat.add_mul];exact jX s x0
  have k9:=run_storeCells_at (P:=P) b' (i*s) E vs 0 cur w hh aa x1;have x2:(l.take i++l2++l.drop (i+l2.length)).length=l.length:=aj
  refine⟨_,k9,hr.modify (h3 b' (by rw[hv];rfl)).1 (h3 b' (by rw[hv];rfl)).2 zcG (jG _) ?_⟩;have k8:cur.toList.length=cap*s:=ao v9
  have v8:=zcW h1 hw.1 h2 v5;have G:=v8.setAt xT (i*s) (by rw[zq l h1,←xT.1,v1];exact v0);rw[←zm6 he l l2 i x0]at G
  have hx:List.take (l.length*s) (cur.toList.take (i*s+0)++vs++cur.toList.drop (i*s+0+vs.length))=xs.take (i*s)++vs++xs.drop (i*s+vs.length):=by
   rw[←v2];apply wN;intro j;simp only[uX,w4,uQ,jJ,jO,k8,wI];rw[show min (i*s) (cap*s)=i*s by omega,show min (l.length*s) (cap*s)=l.length*s by omega,show min (i*s) (l.length*s)=i*s by omega];by_cases q0:j<l.length*s
   ·rw[j7 q0];by_cases q1:j<i*s
    ·simp[q1,show j<i*s+vs.length by omega,q0]
    ·by_cases q2:j<i*s+vs.length
     ·simp[q1,q2]
     ·simp[q2,show i*s+vs.length+(j-(i*s+vs.length))<l.length*s by omega]
   ·rw[j8 q0];rw[j8 aa];rw[j8 aa]
  refine⟨xs.take (i*s)++vs++xs.drop (i*s+vs.length),⟨?_,.inr ⟨b',cap,(cur.toList.take (i*s+0)++vs++cur.toList.drop (i*s+0+vs.length)).toArray,by rw[hv,x2],v4,setRow_heap w b' cur _ E _ hh,by rw[x2];exact w2,v3,aj,by rw[x2];simpa using hx⟩⟩,λi x h=>he x,zb0 (λi x h=>he x) G,h3⟩
  grind
def zaU{enc:α->List AV}{T:TypeId}{i:Nat}{u:AV}(x':α)(hx:ev st x=some (.ptr k s i 0))(hk:lk st.h k=some (.row enc l E s))(he:∀x,(enc x).length=s)(x1:0<s)
 (hi:i<l.length)(hy:ev st y=some u)(hu:u.cl=enc x')(hp:zjo u=true)(x0:scL (enc x')=true)(w2:AV.nm.nmL (enc x')=true)(ht:tyOk P T ag s=true):yu P C (.store T x y) ty none st (putH st k (.row enc (l.set i x') E s)):=λg a w pos af gd hr K hK=>by
 obtain⟨b,hb,e⟩:=zad (yq hr hx);have G:=zjp (yq hr hy) hp;rw[hu]at G;have v9:RVL g.I noNames ([x'].flatMap enc) (a.eval y).cells.toList:=by simpa using G.forget w2
 have xT:∀v∈(a.eval y).cells.toList,v.oneCell'=true:=λv hv=>by
  obtain⟨q,hq⟩:=jL.1 hv;have x2:q<(enc x').length:=by rw[←G.1];grind
  exact(za9 (G.2 q _ v (jC x2) hq) (zdO x0 (jC x2))).2
 obtain⟨w',h1,h2⟩:=hr.row_write (P:=P) (i:=i) (l2:=[x']) hk he x1 v9 xT aj hb
 have hl:l.take i++[x']++l.drop (i+[x'].length)=l.set i x':=by
  rw[List.set_eq_take_append_cons_drop,j7 hi];simp
 rw[hl]at h2;simp only[wp1,execOp,Instr.storeAt,e,Instr.sureAddr,jM,jP,jH,storeVar,yJ ht,uX];have v8:(a.eval y).cells.size=s:=by have:=G.1;simp_all
 rw[j8 (by simp[v8])];simp only[h1,jH,zbH];exact hK _ _ _ h2
def y8{enc:α->List AV}{i:Int}(hx:ev st x=some (.own k))(hk:lk st.h k=some (.row enc l E s))(hy:ev st y=some (.int kk i))(ht:slOk P t E=true)(hE:tyOk P E ag s=true)
 (h0:0<=i)(h1:i<=l.length):Pur P C (.slice t x (some y) none none) ty st (.sub k s i.toNat (l.length-i.toNat)):=λg a w dst pos af gd hr=>by
 obtain⟨xs,hw,_⟩:=hr.sat.blk k _ hk;have ek:=zn (yq hr hx);have ey:=yK (yq hr hy)
 have key:∀(A:Option Addr)(c:Nat),g.ρ k=.slice A l.length c->(l.length≠0->∃b,A=some ⟨b,0,none⟩)->l.length<=c→
  ∃v,(execOp a.eval {dst:=dst,op:=.slice t x (some y) none none,type:=ty,pos:=pos,after:=af,guard:=gd}).run P w=.ok (.value v) w/\RV g.I g.ρ (.sub k s i.toNat (l.length-i.toNat)) v:=λA c G hA hc=>by
  refine⟨.slice (if c=i.toNat then A else A.map (·.add (i.toNat*s))) (l.length-i.toNat) (c-i.toNat),?_,.sub k s _ _ _ _ (λhm=>?_)⟩
  ·rw[G]at ek
   have:(Instr.sliceBounds true l.length c (some (.int kk i)) none none).run P w=.ok (i.toNat,l.length,c) w:=by
    simp[Instr.sliceBounds,Instr.sliceBound,asIntOf,h0,h1]
   simp[execOp,Instr.sliceAt,Instr.slice,run_underlying (yS ht),←ek,ey,this,yJ hE]
  ·obtain⟨b,hb⟩:=hA aa;refine⟨b,by rw[G,hb];rfl,?_⟩
   grind[zG]
 rcases hw.2 with⟨G,x2⟩|⟨b,cap,cur,G,_,_,xT,_⟩
 ·grind
 ·exact key _ cap G (λ_=>⟨b,rfl⟩) xT
def zpH{enc:α->List AV}{i m:Nat}(z':α)(hx:ev st x=some (.sub k s i m))(hk:lk st.h k=some (.row enc l E s))(he:∀x,(enc x).length=s)(G:0<s)(ht:slOk P t E=true)(hi:y7 P E z s bytes)
 (hz:cvL z.cells.toList=some (enc z'))(x0:scL (enc z')=true)(v4:AV.nm.nmL (enc z')=true)(v3:i+m=l.length):yu P C (.call {callee:=.builtin .clear,args:= #[x],argTypes:= #[t]}) ty none st (putH st k (.row enc (l.take i++List.replicate m z') E s)):=λg a w pos af gd hr K hK=>by
 have xT:=yq hr hx;generalize ev':a.eval x=v at xT;cases xT with
 |sub _ _ _ _ c A h=>
 by_cases hm:m=0
 ·subst hm
  have e0:(execOp a.eval {dst:=none,op:=.call {callee:=.builtin .clear,args:= #[x],argTypes:= #[t]},type:=ty,pos:=pos,after:=af,guard:=gd}).run P w=.ok (.value (.tuple #[])) w:=by
   cases A<;>simp[execOp,resolve,invoke,builtin,Builtin.clear_,ev',run_underlying (yS ht)]
  unfold wp1;rw[e0];refine hK _ w g ?_;have e1:l.take i++List.replicate 0 z'=l:=ak
  rw[e1];refine⟨hr.size,hr.defers,hr.tmps,⟨hr.sat.im,hr.sat.ob,λk' B hB=>?_⟩,hr.ext⟩;simp only[putH,ym]at hB;cases hb:k.beq k'<;>simp[hb]at hB
  ·exact hr.sat.blk k' B hB
  ·have:k=k':=ao hb
   subst this;subst hB;exact hr.sat.blk k _ hk
 ·obtain⟨b,hb,e⟩:=h hm;obtain⟨inf,i1,i2,i3,i4,i5⟩:=hi;obtain⟨v2,w2⟩:=zfH (I:=g.I) (ρ:=noNames) hz
  have v9:∀(q:Nat)(u:Value),(Builtin.zeroCells z.cells m).toList[q]? =some u->z.cells.toList[q%s]? =some u:=λq u hu=>by
   grind[Builtin.zeroCells,Nat.mod_lt]
  have v8:RVL g.I noNames ((List.replicate m z').flatMap enc) (Builtin.zeroCells z.cells m).toList:=by
   refine zcW (λ_ x _=>he x) (by rw[xP,size_zeroCells,i5];simp) (λq x j c v hx hc hv=>?_) G
   grind[Nat.add_mul_mod_self_right,Nat.mod_eq_of_lt]
  have x2:∀u∈(Builtin.zeroCells z.cells m).toList,u.oneCell'=true:=λu hu=>by
   obtain⟨q,hq⟩:=jL.1 hu;have hj:=v9 q u hq;have x1:q%s<(enc z').length:=by grind
   exact(za9 (w2 _ _ u (jC x1) hj) (zdO x0 (jC x1))).2
  obtain⟨w',h1,h2⟩:=hr.row_write (P:=P) (i:=i) (l2:=List.replicate m z') hk he G v8 x2 aj hb
  have e2:l.take i++List.replicate m z'++l.drop (i+(List.replicate m z').length)=l.take i++List.replicate m z':=by
   simp;omega
  rw[e2]at h2
  have e0:(execOp a.eval {dst:=none,op:=.call {callee:=.builtin .clear,args:= #[x],argTypes:= #[t]},type:=ty,pos:=pos,after:=af,guard:=gd}).run P w=.ok (.value (.tuple #[])) w':=by
   obtain⟨m',rfl⟩:∃m',m=m'+1:=⟨m-1,aa⟩;have v5:=h1;simp[execOp,resolve,invoke,builtin,Builtin.clear_,ev',e,run_underlying (yS ht),zeroValue,typeInfo,i1,i2,v5]
  unfold wp1;rw[e0];exact hK _ w' g h2
end
end Go.Rse
namespace Go.Rse
open Go Go.RowKit
variable{P:Program}{e:Exit}{rv:List ResultVar}{st:St}{vs:List Value}
def zm4.mk{C:Ctx}{r:AV}{cs:List AV}{G:List (Nat×Blk)}{ts:List (Nat×AV)}(he:e=.normal\/e=.ret)(hi:Imp C st ⟨ts,(kN,.hold vs cs)::G⟩)(hr:RetVs P ⟨ts,(kN,.hold vs cs)::G⟩ rv r):zm4 P C rv r vs cs G e st:=
 ⟨he,ts,hi,hr⟩
def zI{C:Ctx}{r:AV}{cs:List AV}{G:List (Nat×Blk)}{st':St}(hi:Imp C st st')(h:zm4 P C rv r vs cs G e st'):zm4 P C rv r vs cs G e st:=
 ⟨h.1,let⟨ts,h1,h2⟩:=h.2;⟨ts,hi.trans h1,h2⟩⟩
section
variable{P:Program}{C:Ctx}{st:St}{ty:TypeId}
def zu5{ops:Array Oper}{Q:Exit->St->Prop}{rest:List Oper}{d:Nat}{op:Op}{pos:String}{af:Array Edge}(φ:Bool->Prop)
 (hs:∀(g:Gh)(a:Act)(w:World)dst pos af gd,Rel C st g a w->∃b,(execOp a.eval {dst:=dst,op:=op,type:=ty,pos:=pos,after:=af,guard:=gd}).run P w=.ok (.value (.bool b)) w/\φ b)(G:d.blt C.n=true)
 (h:∀b,φ b->Ex P C ops rest ⟨(d,.bool b)::st.t,st.h⟩ Q):
 Ex P C ops ({dst:=some d,op:=op,type:=ty,pos:=pos,after:=af,guard:=none}::rest) st Q:=λg a w hr=>
 wpListIn_plain rfl λK hK=>zaf<|by
  obtain⟨b,h1,h2⟩:=hs g a w (some d) pos af none hr;unfold wp1;rw[h1];refine hK _ _ (h b h2 g _ w ?_);exact hr.addSt (d:=some d) (nb:=none) (Add.refl _ g w) (by simpa[dOk]using G) rfl (.bool b) hr.sat.im hr.sat.ob (λ_ _ h=>by cases h)
def Ex.eqNil{α:Type}{enc:α->List AV}{l:List α}{ops:Array Oper}{Q:Exit->St->Prop}{rest:List Oper}{d:Nat}{t E:TypeId}{x:Operand}{yt:TypeId}{pos:String}{af:Array Edge}(hx:ev st x=some (.sl enc l))(ht:slOk P t E=true)(G:d.blt C.n=true)
 (h:∀b,(b=true->l=[])->Ex P C ops rest ⟨(d,.bool b)::st.t,st.h⟩ Q):
 Ex P C ops ({dst:=some d,op:=.binOp .eql t x (.const (.slice none 0 0)) yt,type:=ty,pos:=pos,after:=af,guard:=none}::rest) st Q:=
 zu5 (λb=>b=true->l=[]) (λg a w dst pos af gd hr=>by
  obtain⟨A,b,o,s',c,vs,e,hA,_⟩:=zcF (yq hr hx);have e0:a.eval (.const (.slice none 0 0))=.slice none 0 0:=rfl;have he:∀A:Option Addr,(Op.equal t (.slice A l.length c) (.slice none 0 0)).run P w=.ok A.isNone w:=λA=>run_equalIn_slice_nil w 9999 t E A l.length c (yS ht)
  refine⟨A.isNone,?_,λhn=>?_⟩
  ·simp[execOp,e,e0,eqGuard,binOp,he]
  ·cases A with
   |none=>
    cases l with
    |nil=>rfl
    |cons x r=>have:=hA ah;simp at this
   |some A=>simp at hn) G h
def zbr{ops:Array Oper}{Q:Exit->St->Prop}{rest:List Oper}{dst:Option Tmp}{pos:String}{af:Array Edge}{fop:Operand}{args:Array Operand}{ts:Array TypeId}{f:FuncId}{caps xs as:List AV}{hs G:List (Nat×Blk)}{kp:List Nat}{r:AV}
 (μ:List (Nat×Nat))(h:FnO P f as hs kp r G)(hf:ev st fop=some (.fn f caps))(hx:evs st args.toList=some xs)(hμ:biOk μ=true)(x1:LeL (xs++caps) (as.map (AV.ren μ)))(x0:as.all (AV.okN (keys hs))=true)(w2:r.okN (keys G)=true)
 (v9:zaq st μ (keys hs) hs)(xT:(G.all λp=>(fwd μ p.1).isSome&&p.2.okNB (keys G))=true)
 (x2:(μ.all λp=>kp.any (·.beq p.1)||(hs.any (·.1.beq p.1)&&!(G.any (·.1.beq p.1)))||(!(hs.any (·.1.beq p.1))&&st.fr p.2))=true)
 (v8:(kp.all λn=>hs.any (·.1.beq n))=true)(hd:dOk C.n dst=true)(hq:Ex P C ops rest (za5 st μ hs G dst r) Q):
 Ex P C ops ({dst:=dst,op:=.call {callee:=.value fop,args:=args,argTypes:=ts},type:=ty,pos:=pos,after:=af,guard:=none}::rest) st Q:=by
 refine zs3 μ h hf hx hμ x1 x0 w2 v9 (λp hp=>?_) (λp hp=>?_) (λn hn=>jF.1 v8 n hn) hd hq
 ·have:=jF.1 xT p hp;simpa using this
 ·have:=jF.1 x2 p hp;simp only[wL,jE,wP]at this;rcases this with(h1|h1)|h1
  ·exact .inl h1
  ·exact .inr (.inl h1)
  ·exact .inr (.inr h1)
end
end Go.Rse
namespace Go.Rse
open Go Go.RowKit
section
variable{P:Program}{C:Ctx}{st:St}{ty:TypeId}
variable{ag:Bool}{dst:Option Tmp}{i:Int}{kk:IntKind}{α:Type}{l:List α}
def zjB{enc:α->List AV}{E t:TypeId}{x y:Operand}{k s:Nat}(hx:ev st x=some (.own k))(hk:lk st.h k=some (.row enc l E s))(hy:ev st y=some (.int kk i))(ht:slOk P t E=true)(hE:tyOk P E ag s=true)
 (h0:0<=i)(h1:i<=l.length)(hd:dOk C.n dst=true):yu P C (.slice t x none (some y) none) ty dst st {t:=consT dst (.own k) (clT k st.t),h:=(k,.row enc (l.take i.toNat) E s)::clH k st.h}:=λg a w pos af gd hr K hK=>by
 obtain⟨xs,hw,q1,q2,q3⟩:=hr.sat.blk k _ hk;have ek:=zn (yq hr hx);have ey:=yK (yq hr hy);have G:(l.take i.toNat).length=i.toNat:=aj
 have key:∀(A A':Option Addr)(c:Nat),g.ρ k=.slice A l.length c->l.length<=c->(A'=if c=0 then A else A.map (·.add (0*s)))->yM C {ρ:=λn=>if n=k then .slice A' i.toNat c else g.ρ n,I:=g.I,O:=g.O} w k (.row enc (l.take i.toNat) E s)→
  wp1 P {dst:=dst,op:=.slice t x none (some y) none,type:=ty,pos:=pos,after:=af,guard:=gd} a w K:=λA A' c hv hc x1 hB=>by
  have e0:(execOp a.eval {dst:=dst,op:=.slice t x none (some y) none,type:=ty,pos:=pos,after:=af,guard:=gd}).run P w=.ok (.value (.slice A' i.toNat c)) w:=by
   rw[hv]at ek
   have:(Instr.sliceBounds true l.length c none (some (.int kk i)) none).run P w=.ok (0,i.toNat,c) w:=by
    simp[Instr.sliceBounds,Instr.sliceBound,asIntOf,h0,show i<=(c:Int)by omega]
   rw[x1];simp[execOp,Instr.sliceAt,Instr.slice,run_underlying (yS ht),←ek,ey,this,yJ hE]
  unfold wp1;rw[e0];refine hK _ w _ (hr.modifyR (g':={ρ:=λn=>if n=k then .slice A' i.toNat c else g.ρ n,I:=g.I,O:=g.O}) (k:=k) (bo:=none) rfl (λn hn=>by simp[hn]) (λ_ _=>rfl) (λb h=>by simp at h) ⟨rfl,rfl,rfl,jG _,λ_ _ _=>rfl⟩ (jG _) hr.sat.ob hd (.own k _ _ _ ah) hB)
 rcases hw.2 with⟨hv,x0⟩|⟨b,cap,cur,hv,w2,hh,v9,v8,x2,v5⟩
 ·have xT:i.toNat=0:=aa
  refine key none none 0 (by rw[hv,x0]) aa ah ⟨[],⟨by simp[xT],.inl ⟨by simp[xT],by simp[xT]⟩⟩,λj x hx=>by simp[xT]at hx,λj x j' c v hx=>by simp[xT]at hx,λb hb=>by simp[yT]at hb⟩
 ·have v3:i.toNat*s<=l.length*s:=jX s aa;refine key (some ⟨b,0,none⟩) (some ⟨b,0,none⟩) cap hv v9 (by simp[zG]) ⟨xs.take (i.toNat*s),⟨by rw[G];simp;rw[hw.1];omega,.inr ⟨b,cap,cur,by simp[G],w2,hh,aa,v8,x2,?_⟩⟩,λj x hx=>?_,λj x j' c v hx hc hv=>?_,λb' v4=>?_⟩
  ·rw[G,←v5,kS];congr 1;omega
  ·rw[w4]at hx;split at hx
   ·exact q1 j x hx
   ·simp at hx
  ·rw[w4]at hx;split at hx
   ·rw[w4]at hv;split at hv
    ·exact q2 j x j' c v hx hc hv
    ·simp at hv
   ·simp at hx
  ·have:=q3 b' (by rw[hv];simpa[yT]using v4);exact this
end
end Go.Rse
namespace Go.Rse
open Go Go.RowKit
variable{P:Program}{f:FuncId}{n:Nat}
def zfK{as:List AV}{hs:List (Nat×Blk)}{B:Blk}(n':Nat)(h:FnO P f as hs [] (.own n) [(n,B)])(hB:B.nm=true):FnO P f as hs [] (.own n') [(n',B)]:=by
 refine⟨h.1,λd ρ I O w args x0 x2=>Calls.mono (h.2 d ρ I O w args x0 x2) ?_⟩
 rintro e w'⟨v,ρ',I',O',rfl,G,hv,hx,-⟩
 let ρ2:Nat->Value:=λk=>if k=n' then ρ' n else ρ' k
 let O2:Owns:=λb=>if O' b=some (d,n)then some (d,n')else O' b
 have w2:∀b p,O2 b=some p->∃m,O' b=some (p.1,m):=λb p hp=>by
  simp only[O2]at hp;split at hp
  ·rename_i e;injection hp with hp;subst hp;exact⟨n,e⟩
  ·exact⟨p.2,hp⟩
 have v9:Ext (C0 0 d ⟨ρ,I,O⟩ w) ⟨ρ2,I',O2⟩ w':=by
  refine⟨hx.I,hx.os,hx.tape,hx.output,hx.drawn,hx.size,λb hb hn ho=>?_,λb y m hb hy=>?_⟩
  ·obtain⟨p1,p2⟩:=hx.keep b hb hn ho;refine⟨p1,?_⟩;have:O' b≠some (d,n):=λe=>hn (.inr ⟨n,by rw[←p2];exact e⟩)
   show(if O' b=some (d,n)then some (d,n')else O' b)=O b;rw[j8 this];exact p2
  ·obtain⟨m',v8⟩:=w2 b (y,m) hy;exact hx.own b y m' hb v8
 refine⟨v,ρ2,I',O2,rfl,⟨λb o u hI=>?_,⟨λb k hO=>?_,G.ob.2⟩,λk B' xT=>?_⟩,?_,v9,λk hk=>by simp at hk⟩
 ·obtain⟨p1,p2⟩:=G.im b o u hI;have p2:O' b=none:=p2;exact⟨p1,by simp[O2,p2]⟩
 ·obtain⟨m,hm⟩:=w2 b k hO;exact G.ob.1 b _ hm
 ·simp only[ym]at xT;cases hb:n'.beq k<;>simp[hb]at xT
  ·simp[lk]at xT
  ·have:n'=k:=ao hb
   subst this;subst xT;refine yM.move (G.blk n B (by simp[ym])) hB rfl (by simp[ρ2]) (λb x1=>?_);have x1:O' b=some (d,n):=x1;have h3:O2 b=some (d,n'):=by simp[O2,x1]
   exact⟨h3,v9.okb b n' h3⟩
 ·have:=zn hv;cases hv;rename_i A m c h4;exact .own n' A m c (by simp[ρ2,h4])
end Go.Rse
namespace Go.Rse
open Go Go.RowKit
variable{F:Fence}{P:Program}{Q:Exit->Act->World->Prop}{a:Act}{b:Frame}{c:Code}{cs:List Frame}{k:List Item}{n:Nat}{st:St}{w:World}
def zbs:step P (lone (b.atR a (.code (.scope c)::k)) cs w)=.next (lone (b.atR a (.code c::.inScope c::k)) cs w):=
 step_lone_go (by simp[stepG,stepG.exec,Frame.atR])
def zj9:step P (lone (b.atR a (.inScope c::k)) cs w)=.next (lone (b.atR a k) cs w):=
 step_lone_go (by simp[stepG,stepG.exec,Frame.atR])
def wpIn_scope(h:c.wpIn F n P (Exit.noGoto Q) a w):(Code.scope c).wpIn F n P Q a w:=by
 intro b k cs xT hb hr;have h0:(lone (b.atR a (.code (.scope c)::k)) cs w).fenced P F:=fenced_calm hb hr rfl;obtain⟨e,a₁,w₁,hq,G⟩:=h b (.inScope c::k) cs xT hb hr;cases e with
 |normal=>exact⟨.normal,a₁,w₁,hq,.head h0 zbs (StepsIn.trans G (.one (fenced_calm hb hr rfl) zj9))⟩
 |exit id=>
  have hx:exitTo id (.inScope c::k)=exitTo id k:=by simp[exitTo]
  exact⟨.exit id,a₁,w₁,hq,λk' hk=>.head h0 zbs (G.1 k' (by rw[hx];exact hk)),
   λx2 hk=>let⟨k₁,h1,h2⟩:=G.2 x2 (by rw[hx];exact hk);⟨k₁,h1,.head h0 zbs h2⟩⟩
 |goto l=>exact hq.elim
 |ret=>exact⟨_,a₁,w₁,hq,.of_steps (.one h0 zbs) G⟩
 |panic ch=>exact⟨_,a₁,w₁,hq,.of_steps (.one h0 zbs) G⟩
 |outgrown=>exact⟨_,a₁,w₁,hq,.of_steps (.one h0 zbs) G⟩
def noGo(Q:Exit->St->Prop):Exit->St->Prop
 |.goto _,_=>False
 |e,st=>Q e st
def X.scope{C:Ctx}{Q:Exit->St->Prop}(h:X P C c st (noGo Q)):X P C (.scope c) st Q:=λg a w hr=>
 wpIn_scope (wpIn_mono (h g a w hr) λe a w⟨st,g,hr,q⟩=>by
  cases e<;>first
   |exact q.elim
   |exact⟨st,g,hr,q⟩)
end Go.Rse
namespace Go.Rse
open Go Go.RowKit
section
variable{P:Program}{C:Ctx}{st st':St}{ty:TypeId}
variable{Q:Exit->St->Prop}{ds:List (List Bool)}{dst:Option Tmp}{es:List (Nat×Nat×Nat)}{l:List Oper}{op:Op}{ops:Array Oper}{rid:Nat}{s0 st1:St}{sts:List St}
def yW{x:AV}{nb:Option (Nat×Blk)}(hs:yy P C op ty st x nb)(hd:dOk C.n dst=true)(hn:nbOk st nb=true):yu P C op ty dst st (Rse.addSt st dst x nb):=λg a w pos af gd hr K hK=>
 hs g a w dst pos af gd hr K λv w' g' h2 h3 G h5=>hK _ _ g' (hr.addSt h2 hd hn h3 G.1 G.2 h5)
def zJ(hs:yu P C op ty dst st st1)(hi:Imp C st1 st'):yu P C op ty dst st st':=λg a w pos af gd hr K G=>
 hs g a w pos af gd hr K λa' w' g' h'=>let⟨g2,h2⟩:=hi g' a' w' h';G a' w' g2 h2
def zbb(P:Program)(C:Ctx)(ops:Array Oper)(i:Nat)(st st':St):Prop:=∃o,ops[i]? =some o/\o.guard=none/\yu P C o.op o.type o.dst st st'
def zaF{ops:Array Oper}{i:Nat}{dst:Option Tmp}{op:Op}{pos:String}{af:Array Edge}(ho:ops[i]? =some {dst:=dst,op:=op,type:=ty,pos:=pos,after:=af,guard:=none})(hs:yu P C op ty dst st st'):zbb P C ops i st st':=⟨_,ho,rfl,hs⟩
def HAll(P:Program)(C:Ctx)(ops:Array Oper)(sts:List St):List (Nat×Nat×Nat)->Prop
 |[]=>True
 |(p,i,q)::r=>(∃s s',sts[p]? =some s/\sts[q]? =some s'/\zbb P C ops i s s')/\HAll P C ops sts r
def HAll.get{ops:Array Oper}{sts:List St}:∀{es:List (Nat×Nat×Nat)},HAll P C ops sts es->∀{p i q:Nat},(p,i,q)∈es->∃s s',sts[p]? =some s/\sts[q]? =some s'/\zbb P C ops i s s'
 |(p',i',q')::r,h,p,i,q,hm=>by
  rcases jW.1 hm with e|hm
  ·injection e with e1 e2;injection e2 with e2 e3;subst e1;subst e2;subst e3;exact h.1
  ·exact HAll.get h.2 hm
def zs4(ops:Array Oper)(ds:List (List Bool))(es:List (Nat×Nat×Nat)):Bool:=
 (List.range ds.length).all λp=>match ds[p]? with
  |none=>false
  |some l=>(l.length==ops.size)&&(l.all id||(!(Region.ready .any ops l.toArray).isEmpty&&(Region.ready .any ops l.toArray).all λi=>es.any λe=>e.1==p&&(e.2.1==i&&ds[e.2.2]? ==some (l.set i true))))
def zV(l:List Bool):Nat:=(l.filter λb=>!b).length
def zdS:∀{l:List Bool}{i:Nat},l[i]? =some false->zV l=zV (l.set i true)+1
 |b::l,0,h=>by simp at h;subst h;simp[zV]
 |b::l,i+1,h=>by
  have:=zdS (l:=l) (i:=i) (ao h);unfold zV at*
  cases b<;>simp[uP]at*<;>omega
def zcX:∀{l:List Bool},zV l=0->l.all id=true
 |[],_=>rfl
 |b::l,h=>by
  unfold zV at h;cases b
  ·simp[uP]at h
  ·simp only[uP,kI,kP,if_false]at h;simpa using zcX (l:=l) h
def drawN(hc:zs4 ops ds es=true)(hs:HAll P C ops sts es)(v2:ds.length=sts.length)(x0:∀(p:Nat)l s,ds[p]? =some l->l.all id=true->sts[p]? =some s->Q .normal s):
 ∀(n p:Nat)(l:List Bool)(s:St)(g:Gh)(a:Act)(w:World),ds[p]? =some l->sts[p]? =some s->zV l=n->Rel C s g a w->wpAnyIn C.F 0 P .any ops (lift C Q) n l.toArray a w:=by
 have xT:∀p l,ds[p]? =some l->l.length=ops.size/\(l.all id=true\/(Region.ready .any ops l.toArray≠[]/\∀i∈Region.ready .any ops l.toArray,∃q,(p,i,q)∈es/\ds[q]? =some (l.set i true))):=λp l hp=>by
  have h1:=jF.1 hc p (by simpa using(j5.1 hp).1);rw[hp]at h1;simp only[jE,beq_iff_eq,wL,wP]at h1;refine⟨h1.1,?_⟩;rcases h1.2 with h|⟨h2,h3⟩
  ·exact .inl h
  ·refine .inr ⟨λe=>by rw[e]at h2;simp at h2,λi hi=>?_⟩;have h4:=jF.1 h3 i hi;obtain⟨⟨p',i',q⟩,hm,h5⟩:=vB.1 h4;simp only[jE,beq_iff_eq]at h5;obtain⟨e1,e2,e3⟩:=h5;subst e1;subst e2;exact⟨q,hm,e3⟩
 intro n
 induction n with
 |zero=>
  intro p l s g a w hp x1 hn hr;have x2:=zcX hn;refine⟨uE.2 λi hi=>?_,s,g,hr,x0 p l s hp x2 x1⟩;obtain⟨h1,h2,_⟩:=zr.1 hi;have G:i<l.length:=by rw[(xT p l hp).1];exact h1
  have h3:=jF.1 x2 _ (wK G);simp[jI,G]at h2 h3;rw[h3]at h2;cases h2
 |succ n ih=>
  intro p l s g a w hp x1 hn hr;obtain⟨hl,v9⟩:=xT p l hp
  have w2:¬l.all id=true:=λh=>by
   have:zV l=0:=by
    unfold zV;rw[uF.2 (λb hb=>by have:=jF.1 h b hb;simpa using this)];rfl
   omega
  rcases v9 with h|⟨v8,v5⟩
  ·exact absurd h w2
  ·refine⟨λe=>absurd e v8,λi hi=>?_⟩;obtain⟨q,hm,hq⟩:=v5 i hi;obtain⟨s1,s2,h1,h2,o,ho,hg,v4⟩:=hs.get hm;rw[x1]at h1;injection h1 with h1;subst h1;obtain⟨r1,r2,_⟩:=zr.1 hi;have G:i<l.length:=by rw[hl];exact r1
   have v3:l[i]? =some false:=by
    simp[jI,G]at r2;rw[jC G,r2]
   simp only[wpOpIn,ho];obtain⟨dst,op,ty,pos,af,gd⟩:=o;simp only at hg;subst hg;have hw:Region.wanted {dst:=dst,op:=op,type:=ty,pos:=pos,after:=af,guard:=none} (yielded ops a.tmps)=true:=rfl;rw[j7 hw];refine zaf (v4 g a w pos af none hr _ λa' w' g' h'=>?_);have e:l.toArray.setIfInBounds i true=(l.set i true).toArray:=ah
   rw[e];exact ih q (l.set i true) s2 g' a' w' hq h2 (by have:=zdS v3;omega) h'
def X.drawN(sts:List St)(ds:List (List Bool))(es:List (Nat×Nat×Nat))(hm:P.follows .mixedOrders=true)(h0:ds[0]? =some (List.replicate l.length false))(x1:sts[0]? =some s0)(hi:Imp C st s0)(hc:zs4 l.toArray ds es=true)(xT:ds.length=sts.length)
 (hs:HAll P C l.toArray sts es)(x2:∀(p:Nat)d s,ds[p]? =some d->d.all id=true->sts[p]? =some s->Q .normal s):X P C (.region rid l.toArray true) st Q:=λg a w hr=>by
 refine wpIn_region_any hm ?_;obtain⟨g1,G⟩:=hi g a w hr;have x0:Rel C s0 g1 a w.drew:=G.add (nk:=none) (d:=none) (x:=.any) (v:=.nilIface) ⟨Im.le_refl _,λ_ _=>rfl,λ_ _=>rfl,Grow.drew w⟩ (λk h=>by simp at h) (λt h=>by simp at h) (.any _) G.sat.im G.sat.ob;have h:=Rse.drawN hc hs xT x2 (zV (List.replicate l.length false)) 0 _ s0 g1 a w.drew h0 x1 rfl x0;have e1:zV (List.replicate l.length false)=l.toArray.size:=by simp[zV]
 have e2:(List.replicate l.length false).toArray=Array.replicate l.toArray.size false:=ah
 rw[e1,e2]at h;exact h
end
end Go.Rse
namespace Go.Rse
open Go Go.RowKit
section
variable{P:Program}{C:Ctx}{st:St}{ty:TypeId}
variable{E:TypeId}{kc kl:IntKind}{p q:Int}{t:TypeId}{x y:Operand}{z:Value}{α:Type}
def zgM{enc:α->List AV}(z':α){bytes n k s:Nat}(ht:slOk P t E=true)(hi:y7 P E z s bytes)(v2:0<s)(x2:bytes<=1024)(hx:ev st x=some (.int kl p))(hy:ev st y=some (.int kc q))(hp:p=(n:Int))(hq:q=(n:Int))(hn:n<=1000000)
 (hs:∀x,(enc x).length=s)(x1:∀(I:Im)(j:Nat)c,(enc z')[j]? =some c->RV I noNames c z.cells[j]!):yy P C (.makeSlice t x y) ty st (.own k) (some (k,.row enc (List.replicate n z') E s)):=
 zM λg a w dst pos af gd hr=>by
  subst hp;subst hq;obtain⟨i,x0,w2,G,v9,v8⟩:=hi;have ex:=yK (yq hr hx);have ey:=yK (yq hr hy);have xT:n<=maxLen:=by simp only[maxLen];omega
  have hb:i.bytes*n<=281474976710656:=by
   rw[v9]
   calc bytes*n<=1024*1000000:=kG x2 hn
    _<=281474976710656:=ac
  have v5:((i.bytes:Int)*(n:Int))<=281474976710656:=by
   have:((i.bytes*n:Nat):Int)<=281474976710656:=aa
   rwa[Int.natCast_mul]at this
  have h1:=run_make (P:=P) w t E i z (yS ht) x0 w2 kl kc n n aa (vD _) v5 aa;simp only[jN]at h1
  have ecs:∀q,q<n*s->(madeCells z.cells (n*i.size)).toList[q]? =some z.cells[q%s]! :=λq hq=>by
   have:q<n*i.size:=by rw[G];exact hq
   simp[madeCells,this,v8]
  have v4:∀(i:Nat)x,(List.replicate n z')[i]? =some x->(enc x).length=s:=λi x _=>hs x
  refine⟨.slice (some ⟨w.heap.size,0,none⟩) n n,_,g.nw C.d w.heap.size k (.slice (some ⟨w.heap.size,0,none⟩) n n),?_,Add.nw (Grow.alloc _ (.cells (madeCells z.cells (n*i.size)) E)) C.d k _,.own k _ _ _ (by simp[Gh.nw]),ImOB.nw ⟨hr.sat.im,hr.sat.ob⟩ (Grow.alloc _ _) ah C.d k _,λk' B hB=>?_⟩
  ·simp only[execOp,ex,ey,jM,h1,jH,jP]
  ·injection hB with hB;injection hB with e1 e2;subst e1;subst e2;refine⟨(madeCells z.cells (n*i.size)).toList,?_,v4,λj x q c v hx hc hv=>?_,λb hb=>?_⟩
   ·simp only[Gh.nw,if_true];refine⟨by simp[size_madeCells,G],.inr ⟨w.heap.size,n,madeCells z.cells (n*i.size),ah,jU _,heap_alloc_new w _,ah,xT,by simp[G,size_madeCells],?_⟩⟩;rw[vA,wE (by simp[size_madeCells,G])]
   ·have hj:=(j5.1 hx).1;rw[vA]at hj;rw[uS]at hx;split at hx
    ·injection hx with hx;subst hx;have hq:q<s:=by rw[←hs z'];exact(j5.1 hc).1
     have v3:j*s+q<n*s:=by
      have:=jX s (show j+1<=n by omega);rw[Nat.add_mul,vX]at this;omega
     rw[ecs _ v3,u3,Nat.mul_add_mod,Nat.mod_eq_of_lt hq]at hv;injection hv with hv;rw[←hv];exact x1 _ q c hc
    ·omega
   ·simp only[Gh.nw,if_true,yT]at hb;injection hb with hb;subst hb;exact⟨by simp[Gh.nw],.inl hr.ext.size⟩
def zez{enc:α->List AV}(z':α){bytes n k:Nat}(ht:slOk P t E=true)(hi:y7 P E z 1 bytes)(G:z.cells= #[z])(xT:bytes<=1024)(hx:ev st x=some (.int kl p))(hy:ev st y=some (.int kc q))(hp:p=(n:Int))(hq:q=(n:Int))(hn:n<=1000000)
 (hs:∀x,(enc x).length=1)(x2:∀(I:Im)(j:Nat)c,(enc z')[j]? =some c->RV I noNames c z):yy P C (.makeSlice t x y) ty st (.own k) (some (k,.row enc (List.replicate n z') E 1)):=
 zgM z' ht hi ac xT hx hy hp hq hn hs λI j c h=>by
  have hj:j<1:=by rw[←hs z'];exact(j5.1 h).1
  have:j=0:=aa
  subst this;rw[G];exact x2 I 0 c h
def zK(enc:α->List AV)(E s b k E0:Nat)(ht:lk st.h b=some (.box [.nils] E0))(hf:st.fr k=true):Imp C st {t:=st.t,h:=(b,.box [.own k] E0)::(k,.row enc [] E s)::st.h}:=λg a w hr=>by
 have G:b≠k:=λe=>by
  subst e;simp[St.fr]at hf;exact(zb9 hf.2 ht).2 rfl
 obtain⟨b1,vs,e1,e2,e3,e4,e5,e6⟩:=hr.sat.blk b _ ht
 have ha:Add (some k) g w {ρ:=λn=>if n=k then .slice none 0 0 else g.ρ n,I:=g.I,O:=g.O} w:=⟨Im.le_refl _,λn hn=>by
  have:n≠k:=λe=>hn (by rw[e])
  simp[this],λ_ _=>rfl,Grow.refl w⟩
 have h1:=hr.add (d:=none) (x:=.any) (v:=.nilIface) ha (λn hn=>by injection hn with hn;subst hn;exact hf) (λt h=>by simp at h) (.any _) hr.sat.im hr.sat.ob;have h2:=h1.withBlk (k:=k) (B:=.row enc [] E s) ⟨[],⟨ah,.inl ⟨ah,rfl⟩⟩,λi x h=>by simp at h,λi x j c v h=>by simp at h,λb hb=>by simp[yT]at hb⟩;refine⟨_,h2.withBlk (k:=b) (B:=.box [.own k] E0) ⟨b1,vs,by simp[G,e1],e2,e3,e4,e5,λj c v hc hv=>?_⟩⟩
 have hj:j=0:=by
  have:=(j5.1 hc).1;simp at this;omega
 subst hj;simp at hc;subst hc;have:=zbG (e6 0 .nils v rfl hv);rw[this];exact .own k none 0 0 ah
end
end Go.Rse
namespace Go.Rse
open Go Go.RowKit
structure Fl:Type 1 where
 i:Nat
 d:Nat
 x:AV
 as:List Nat
def SP(b:St)(fl:List Fl)(β:Nat->Bool):St:=⟨fl.map (λf=>(f.d,.ifb (β f.i) f.x))++rmK (fl.map (·.d)) b.t,b.h⟩
def RP(b:St)(fl:List Fl)(as:List Nat):St:=⟨(fl.filter λf=>memb f.i as).map (λf=>(f.d,f.x))++rmK (fl.map (·.d)) b.t,b.h⟩
def zeA{g:Fl->AV}:∀{fl:List Fl}{b:List (Nat×AV)}{t:Nat}{x:AV},lk (fl.map (λf=>(f.d,g f))++b) t=some x->(∃f∈fl,f.d=t/\g f=x)\/((∀f∈fl,f.d≠t)/\lk b t=some x)
 |[],b,t,x,h=>.inr ⟨λf hf=>by simp at hf,by simpa using h⟩
 |f::r,b,t,x,h=>by
  simp only[wW,wY,ym]at h;cases G:f.d.beq t<;>simp[G]at h
  ·have xT:f.d≠t:=λe=>by subst e;simp at G
   rcases zeA h with⟨f',h1,h2,h3⟩|⟨h1,h2⟩
   ·exact .inl ⟨f',by simp[h1],h2,h3⟩
   ·exact .inr ⟨λf' hf=>by
     rcases jW.1 hf with rfl|hf
     ·exact xT
     ·exact h1 f' hf,h2⟩
  ·exact .inl ⟨f,ah,by simpa using G,h⟩
def zfL{g:Fl->AV}:∀{fl:List Fl}{b:List (Nat×AV)}{f:Fl},(fl.map (·.d)).Nodup->f∈fl->lk (fl.map (λf=>(f.d,g f))++b) f.d=some (g f)
 |f0::r,b,f,hn,hf=>by
  simp only[wW,vR]at hn;simp only[wW,wY,ym];rcases jW.1 hf with rfl|hf
  ·simp
  ·have G:f0.d≠f.d:=λe=>hn.1 (by rw[e];exact jS.2 ⟨f,hf,rfl⟩)
   simp only[beqF.2 G,cond_false];exact zfL hn.2 hf
def zfM{g:Fl->AV}:∀{fl:List Fl}{b:List (Nat×AV)}{t:Nat},(∀f∈fl,f.d≠t)->lk (fl.map (λf=>(f.d,g f))++b) t=lk b t
 |[],b,t,_=>rfl
 |f::r,b,t,h=>by
  simp only[wW,wY,ym,beqF.2 (h f ah),cond_false];exact zfM λf' hf=>h f' (by simp[hf])
def zbU{α:Type 1}{g:α->Nat}:∀{l:List α},(l.map g).Nodup->∀{x y:α},x∈l->y∈l->g x=g y->x=y
 |a::r,hn,x,y,hx,hy,e=>by
  simp only[wW,vR]at hn;rcases jW.1 hx with h1|h1
  ·rcases jW.1 hy with G|G
   ·rw[h1,G]
   ·exact absurd (jS.2 ⟨y,G,by rw[←e,h1]⟩) hn.1
  ·rcases jW.1 hy with G|G
   ·exact absurd (jS.2 ⟨x,h1,by rw[e,G]⟩) hn.1
   ·exact zbU hn.2 h1 G e
section
variable{P:Program}{C:Ctx}{st st':St}
variable{Q:Exit->St->Prop}{a:Act}{b:St}{dst:Option Tmp}{g:Gh}{l:List Oper}{op:Op}{rid:Nat}{st0:St}{ty:TypeId}{w:World}
def Rel.slots(h:Rel C st g a w)(G:st'.h=st.h)(ht:∀t x,lk st'.t t=some x->RV g.I g.ρ x (a.tmps.getD t undef)):Rel C st' g a w:=
 ⟨h.size,h.defers,ht,⟨h.sat.im,h.sat.ob,λk B hB=>h.sat.blk k B (by rw[←G];exact hB)⟩,h.ext⟩
def zxQ{b:St}{fl:List Fl}{β:Nat->Bool}{as:List Nat}(hn:(fl.map (·.d)).Nodup)(hβ:∀f∈fl,f.i∈as->β f.i=true){g:Gh}{a:Act}{w:World}(h:Rel C (SP b fl β) g a w):Rel C (RP b fl as) g a w:=by
 refine h.slots rfl λt x hx=>?_
 have hx:lk ((fl.filter λf=>memb f.i as).map (λf=>(f.d,f.x))++rmK (fl.map (·.d)) b.t) t=some x:=hx;rcases zeA hx with⟨f,hf,rfl,rfl⟩|⟨_,G⟩
 ·rw[wG]at hf;have h1:RV g.I g.ρ (.ifb (β f.i) f.x) _:=h.tmps f.d _ (zfL (g:=λf=>.ifb (β f.i) f.x) hn hf.1);exact zl6 h1 (hβ f hf.1 (yG.1 hf.2))
 ·have h3:=(zhj G).1;refine h.tmps t x ?_;show lk (fl.map (λf=>(f.d,.ifb (β f.i) f.x))++rmK (fl.map (·.d)) b.t) t=some x;rw[zfM (g:=λf=>.ifb (β f.i) f.x) (λf hf e=>?_)]
  ·exact G
  ·have:memb t (fl.map (·.d))=true:=yG.2 (jS.2 ⟨f,hf,e⟩);rw[h3]at this;simp at this
def zgN{fl:List Fl}{β β':Nat->Bool}(h:∀f∈fl,β f.i=β' f.i):SP b fl β=SP b fl β':=by
 unfold SP;rw[List.map_congr_left λf hf=>by rw[h f hf]]
def zxR(core:List (Nat×List Nat))(f:Fl)(j:Nat):Bool:=(List.range core.length).any λq=>match core[q]? with
 |some c=>(memb c.1 f.as&&j.ble q)||(q.blt j&&memb f.i c.2)
 |none=>false
def zjC:List (Nat×List Nat)->Bool
 |c::c'::r=>memb c.1 c'.2&&zjC (c'::r)
 |_=>true
def zjD:∀{core:List (Nat×List Nat)},zjC core=true->∀{q:Nat}{c c':Nat×List Nat},core[q]? =some c->core[q+1]? =some c'->c.1∈c'.2
 |a::b::r,h,0,c,c',h1,G=>by
  simp only[zjC,jE]at h;simp at h1 G;subst h1;subst G;exact yG.1 h.1
 |a::b::r,h,q+1,c,c',h1,G=>by
  simp only[zjC,jE]at h;exact zjD (core:=b::r) h.2 (ao h1) (ao G)
 |[a],h,q,c,c',h1,G=>by simp at G
 |[],h,q,c,c',h1,G=>by simp at h1
def zmb(ops:Array Oper)(fl:List Fl)(core:List (Nat×List Nat)):Bool:=
 zcU ops&&decide ((fl.map (·.d)).Nodup)&&decide ((fl.map (·.i)++core.map (·.1)).Nodup)&&((List.range ops.size).all λi=>memb i (fl.map (·.i))||memb i (core.map (·.1)))&&(fl.all λf=>zev ops f.i f.as)&&(core.all λc=>zev ops c.1 c.2)&&zjC core
def zeB:∀{m:Nat}{l:List Bool},(∃i:Nat,i<m/\l[i]? =some false)->∃i:Nat,l[i]? =some false/\∀k:Nat,k<i->l[k]? ≠some false
 |0,l,⟨i,h,_⟩=>by omega
 |m+1,l,⟨i,h,hi⟩=>by
  by_cases G:∃i:Nat,i<m/\l[i]? =some false
  ·exact zeB G
  ·refine⟨i,hi,λk hk e=>G ⟨k,aa,e⟩⟩
def zP{fl:List Fl}(h:Imp C st b):Imp C st (SP b fl λ_=>false):=λg a w hr=>by
 obtain⟨g',h1⟩:=h g a w hr;refine⟨g',h1.slots rfl λt x hx=>?_⟩;have hx:lk (fl.map (λf=>(f.d,.ifb false f.x))++rmK (fl.map (·.d)) b.t) t=some x:=hx;rcases zeA (g:=λf=>.ifb false f.x) hx with⟨f,hf,rfl,rfl⟩|⟨_,G⟩
 ·exact .ifb _ _ _ λh=>by cases h
 ·exact h1.tmps t x (zhj G).2
def zu6{fl:List Fl}(hn:(fl.map (·.d)).Nodup):Imp C (SP b fl λ_=>true) ⟨fl.map (λf=>(f.d,f.x))++rmK (fl.map (·.d)) b.t,b.h⟩:=λg a w hr=>by
 refine⟨g,hr.slots rfl λt x hx=>?_⟩;rcases zeA (g:=λf=>f.x) hx with⟨f,hf,rfl,rfl⟩|⟨h1,G⟩
 ·have h1:RV g.I g.ρ (.ifb true f.x) _:=hr.tmps f.d _ (zfL (g:=λf=>.ifb true f.x) hn hf);exact zl6 h1 rfl
 ·refine hr.tmps t x ?_;show lk (fl.map (λf=>(f.d,.ifb true f.x))++rmK (fl.map (·.d)) b.t) t=some x;rw[zfM (g:=λf=>.ifb true f.x) h1];exact G
def zeC{b:Bool}{x:AV}(h:b=true):LeV (.ifb b x) x:=by subst h;exact LeV.ifb (LeV.refl x)
def zcp(b:Bool)(x:AV):LeV x (.ifb b x):=λI ρ v h=>.ifb _ _ _ λ_=>h
def Imp.im{C:Ctx}{st:St}{ts:List (Nat×AV)}{hs:List (Nat×Blk)}(h1:impT st ts:=by(repeat'(first|exact True.intro|(refine And.intro ⟨_,rfl,?_⟩ ?_;(first|exact LeV.refl _|exact LeV.any _|exact LeB.refl _|(refine LeV.eq ?_;simp;done)|(refine LeV.eq ?_;congr 1;omega)|(refine LeV.eq ?_;dsimp only;congr 1;omega)|(refine LeV.eq (jA (AV.int _) ?_);omega)|exact LeV.nils _|exact LeB.row ai|(refine LeB.eq ?_;congr 1;omega)|(refine LeB.eq ?_;congr 1;simp only[cond_true,cond_false];omega))))))(G:impH st hs:=by(repeat'(first|exact True.intro|(refine And.intro ⟨_,rfl,?_⟩ ?_;(first|exact LeV.refl _|exact LeV.any _|exact LeB.refl _|(refine LeV.eq ?_;simp;done)|(refine LeV.eq ?_;congr 1;omega)|(refine LeV.eq ?_;dsimp only;congr 1;omega)|(refine LeV.eq (jA (AV.int _) ?_);omega)|exact LeV.nils _|exact LeB.row ai|(refine LeB.eq ?_;congr 1;omega)|(refine LeB.eq ?_;congr 1;simp only[cond_true,cond_false];omega)))))):Imp C st ⟨ts,hs⟩:=Imp.of h1 G
def zfN{C:Ctx}{st:St}{ts:List (Nat×AV)}{hs:List (Nat×Blk)}(h1:impT st ts:=by(repeat'(first|exact True.intro|(refine And.intro ⟨_,rfl,?_⟩ ?_;(first|exact LeV.refl _|exact zeC (hβ _ ah)|exact zcp _ _|exact LeV.any _|exact LeB.refl _|(refine LeV.eq ?_;simp;done)|(refine LeV.eq ?_;congr 1;omega)|(refine LeV.eq ?_;dsimp only;congr 1;omega)|(refine LeV.eq (jA (AV.int _) ?_);omega)|exact LeV.nils _|exact LeB.row ai|(refine LeB.eq ?_;congr 1;omega)|(refine LeB.eq ?_;congr 1;simp only[cond_true,cond_false];omega))))))(G:impH st hs:=by(repeat'(first|exact True.intro|(refine And.intro ⟨_,rfl,?_⟩ ?_;(first|exact LeV.refl _|exact zeC (hβ _ ah)|exact zcp _ _|exact LeV.any _|exact LeB.refl _|(refine LeV.eq ?_;simp;done)|(refine LeV.eq ?_;congr 1;omega)|(refine LeV.eq ?_;dsimp only;congr 1;omega)|(refine LeV.eq (jA (AV.int _) ?_);omega)|exact LeV.nils _|exact LeB.row ai|(refine LeB.eq ?_;congr 1;omega)|(refine LeB.eq ?_;congr 1;simp only[cond_true,cond_false];omega)))))):Imp C st ⟨ts,hs⟩:=Imp.of h1 G
def zcq(hi:Imp C st st0)(hs:yu P C op ty dst st0 st'):yu P C op ty dst st st':=λg a w pos af gd hr K G=>
 let⟨g2,h2⟩:=hi g a w hr;hs g2 a w pos af gd h2 K G
def zAd(ds:List (List Bool))(N:Nat):Bool:=(List.range ds.length).all λp=>match ds[p]? with
 |some d=>!(d.all id)||p==N
 |none=>true
def zs5(sts:List St)(ds:List (List Bool))(es:List (Nat×Nat×Nat))(N:Nat)(hm:P.follows .mixedOrders=true){s0 sN:St}(h0:ds[0]? =some (List.replicate l.length false))(x1:sts[0]? =some s0)(hi:Imp C st s0)(hc:zs4 l.toArray ds es=true)(xT:ds.length=sts.length)
 (hN:zAd ds N=true)(x0:sts[N]? =some sN)(hs:HAll P C l.toArray sts es)(x2:Q .normal sN):X P C (.region rid l.toArray true) st Q:=
 X.drawN sts ds es hm h0 x1 hi hc xT hs λp d s hp hd G=>by
  have h1:=jF.1 hN p (by simpa using(j5.1 hp).1);rw[hp]at h1;simp only[hd,kI,xR,beq_iff_eq]at h1;subst h1;rw[x0]at G;injection G with G;subst G;exact x2
end
end Go.Rse
namespace Go.Rse
open Go Go.RowKit
section
variable{P:Program}{C:Ctx}{st:St}{ty:TypeId}
variable{ag:Bool}{parts:Array (Nat×Operand)}{z:Value}{α:Type}{l:List α}
def zu{enc:α->List AV}{t E:TypeId}{s n:Nat}{ps:List (Nat×AV)}(ht:slOk P t E=true)(hE:tyOk P E ag s=true)(hz:(P.info? E).bind (·.zero)=some z)
 (v3:0<s)(hp:zbI st parts.toList=some ps)(hk:zci ps=true)(hf:zfn (λi=>some (i*s,s)) (List.replicate (n*s) .any) ps=some (l.flatMap enc))(x2:l.length=n)(hn:n*s<=16777216)(hm:n<=1000000)
 (hs:∀x,(enc x).length=s)(v5:AV.nm.nmL (l.flatMap enc)=true):yy P C (.buildSlice t n parts) ty st (.sl enc l) none:=
 zM λg a w dst pos af gd hr=>by
  have w2:n<=maxLen:=by simp only[maxLen];omega
  have main:∀zc:Array Value,∃vs',Instr.fill (λi=>some (i*s,s)) ((Array.range (n*s)).map (zc[· %zc.size]!)) (parts.map λ(i,x)=>(i,a.eval x)).toList=some vs'/\RVL g.I g.ρ (l.flatMap enc) vs'.toList:=λzc=>by
   have:=zgD (I:=g.I) (ρ:=g.ρ) (λi=>some (i*s,s)) ps (parts.toList.map λ(i,x)=>(i,a.eval x)) (List.replicate (n*s) .any) (l.flatMap enc) ((Array.range (n*s)).map (zc[· %zc.size]!)) (zcH hr hp) hk
    ⟨ah,λj c v G hv=>by
     rw[uS]at G;split at G
     ·injection G with G;subst G;exact .any v
     ·simp at G⟩ hf
   simpa using this
  have x1:∀(i:Nat)x,l[i]? =some x->(enc x).length=s:=λi x _=>hs x
  let gF:Array Value->Gh:=λvs'=>⟨g.ρ,λb o=>if b=w.heap.size then vs'[o]? else g.I b o,g.O⟩
  have fin:∀vs':Array Value,RVL g.I g.ρ (l.flatMap enc) vs'.toList→
   Add none g w (gF vs') (w.alloc (.cells vs' E))/\RV (gF vs').I (gF vs').ρ (.sl enc l) (.slice (some ⟨w.heap.size,0,none⟩) n n)/\ImOB (gF vs') (w.alloc (.cells vs' E)):=λvs' hv=>by
   have x0:Im.le g.I (gF vs').I:=λb o u hI=>by
    have:=zch (hr.sat.im b o u hI).1;simp only[gF];rw[j8 aa];exact hI
   have v9:vs'.toList.length=n*s:=by rw[hv.1,zq l x1,x2]
   have v8:=zb0 x1 (I:=g.I) (xs:=vs'.toList) ⟨hv.1,λj c v G v4=>(hv.2 j c v G v4).forget (zw v5 G)⟩;refine⟨⟨x0,λ_ _=>rfl,λ_ _=>rfl,Grow.alloc _ _⟩,?_,λb o u hI=>?_,λb k hO=>?_,Im.le_trans hr.sat.ob.2 x0⟩
   ·have xT:∀(i:Nat)(x:α)(j:Nat),l[i]? =some x->j<s->i*s+j<vs'.size:=λi x j hx hj=>by
     have h1:i<n:=by rw[←x2];exact(j5.1 hx).1
     have h2:(i+1)*s<=n*s:=jX s h1;have h3:vs'.size=n*s:=ao v9
     rw[Nat.add_mul]at h2;omega
    have key:=RV.sl (I:=(gF vs').I) (ρ:=(gF vs').ρ) enc l (some ⟨w.heap.size,0,none⟩) w.heap.size 0 s n (λi j=>(vs'[i*s+j]?).getD .nilIface) (λ_=>rfl) aa w2 x1
     (λi x j hx hj=>by
      have:=xT i x j hx hj;simp only[gF,if_true,u6];simp[this])
     (λi x j c hx G=>by
      have hj:j<s:=by rw[←hs x];exact(j5.1 G).1
      have h1:=xT i x j hx hj;have h2:vs'.toList[i*s+j]? =some vs'[i*s+j]:=by simp[h1]
      have h3:=(v8 i x j c _ hx G h2).mono x0;simpa[h1]using h3)
    rw[x2]at key;exact key
   ·simp only[gF]at hI;by_cases e:b=w.heap.size
    ·subst e;rw[j7 rfl]at hI;refine⟨?_,?_⟩
     ·have h1:=heap_alloc_new w (.cells vs' E);simp only[World.cell?,h1];simpa using hI
     ·show g.O w.heap.size=none;cases hO:g.O w.heap.size with
      |none=>rfl
      |some k=>have:=hr.sat.ob.1 _ _ hO;omega
    ·rw[j8 e]at hI;obtain⟨h1,h2⟩:=hr.sat.im b o u hI;exact⟨(Grow.alloc w (.cells vs' E)).cell h1,h2⟩
   ·have:=hr.sat.ob.1 b k hO;show b<(w.heap.push _).size;simp;omega
  cases hi:P.info? E with
  |none=>simp[hi]at hz
  |some i=>
   simp[hi]at hz;have v2:i.size=s:=by simp[tyOk,hi]at hE;exact hE.1
   by_cases h0:n*s=0
   ·obtain⟨vs',h1,h2⟩:=main #[];obtain⟨f1,f2,f3⟩:=fin vs' h2;refine⟨_,_,_,?_,f1,f2,f3,λk' B hB=>by cases hB⟩;simp only[execOp,Instr.buildSlice,jM,run_underlying (yS ht),jH,yJ hE,h0,if_true,jP];rw[h0]at h1;rw[j8 aa];simp only[jP,jH,h1,newRow,jM,run_newObj];rfl
   ·obtain⟨vs',h1,h2⟩:=main z.cells;obtain⟨f1,f2,f3⟩:=fin vs' h2;refine⟨_,_,_,?_,f1,f2,f3,λk' B hB=>by cases hB⟩;simp only[execOp,Instr.buildSlice,jM,run_underlying (yS ht),jH,yJ hE,h0,if_false,jP];rw[j8 aa];simp only[jP,jM,zeroValue,typeInfo,run_program,hi,hz,jH,h1,newRow,run_newObj];rfl
end
end Go.Rse
namespace Go.Rse
open Go Go.RowKit
section
variable{P:Program}{C:Ctx}{st:St}{ty:TypeId}
def zk{ops:Array Oper}{Q:Exit->St->Prop}{rest:List Oper}{dst:Option Tmp}{op:Op}{pos:String}{af:Array Edge}{i t:Nat}{want b:Bool}
 (hi:(ops[i]?).bind (·.dst)=some t)(hb:lk st.t t=some (.bool b))(hw:(b==want)=true)
 (h:Ex P C ops ({dst:=dst,op:=op,type:=ty,pos:=pos,after:=af,guard:=none}::rest) st Q):Ex P C ops ({dst:=dst,op:=op,type:=ty,pos:=pos,after:=af,guard:=some (i,want)}::rest) st Q:=λg a w hr=>by
 have hy:yielded ops a.tmps i=some b:=by
  have:=z8 (hr.tmps t _ hb)
  have e:a.tmps[t]? =some (.bool b):=by
   simp only[jI]at this;cases h:a.tmps[t]? with
   |none=>rw[h]at this;simp[undef]at this
   |some u=>rw[h]at this;simpa using this
  simp[yielded,hi,e]
 have xT:Region.wanted {dst:=dst,op:=op,type:=ty,pos:=pos,after:=af,guard:=some (i,want)} (yielded ops a.tmps)=true:=by
  simp only[Region.wanted,hy];exact hw
 have G:Region.wanted {dst:=dst,op:=op,type:=ty,pos:=pos,after:=af,guard:=none} (yielded ops a.tmps)=true:=rfl;have h1:=h g a w hr;unfold wpListIn at h1⊢;rw[j7 G]at h1;rw[j7 xT];exact h1
end
end Go.Rse
namespace Go.Rse
open Go Go.RowKit
section
variable{P:Program}{C:Ctx}{st:St}{ty:TypeId}
variable{E:TypeId}{Q:Exit->St->Prop}{ag:Bool}{b:St}{bs:Nat->St}{core:List (Nat×List Nat)}{i:Int}{j:Nat}{kk:IntKind}{ops:Array Oper}{rid s:Nat}{t:TypeId}{x y:Operand}{α:Type}{l:List α}
def zs6(P:Program)(C:Ctx)(ops:Array Oper)(core:List (Nat×List Nat))(fl:List Fl)(b:St)(f:Fl)(j:Nat):Prop:=zxR core f j=true\/∃o,ops[f.i]? =some o/\o.guard=none/\o.dst=some f.d/\f.d.blt C.n=true/\yy P C o.op o.type (RP b fl f.as) f.x none
def zeD(P:Program)(C:Ctx)(ops:Array Oper)(core:List (Nat×List Nat))(fl:List Fl)(b:St)(j:Nat):List Fl->Prop
 |[]=>True
 |f::r=>zs6 P C ops core fl b f j/\zeD P C ops core fl b j r
def zeD.get{fl:List Fl}:∀{l:List Fl},zeD P C ops core fl b j l->∀f∈l,zs6 P C ops core fl b f j
 |g::r,h,f,hf=>by
  rcases jW.1 hf with rfl|hf
  ·exact h.1
  ·exact h.2.get f hf
def drawQ{fl:List Fl}(hp:zmb ops fl core=true)(hF:∀j,j<=core.length->zeD P C ops core fl (bs j) j fl)
 (hM:∀j c,core[j]? =some c->∀β:Nat->Bool,(∀a∈c.2,β a=true)->zbb P C ops c.1 (SP (bs j) fl β) (SP (bs (j+1)) fl β))(k4:Q .normal (SP (bs core.length) fl λ_=>true)):
 ∀(n:Nat)(l:List Bool)(j:Nat)(g:Gh)(a:Act)(w:World),l.length=ops.size->zdR ops l.toArray->zV l=n->j<=core.length->(∀q c,core[q]? =some c->(l.toArray.getD c.1 false=true↔q<j))->Rel C (SP (bs j) fl λi=>l.toArray.getD i false) g a w→
 wpAnyIn C.F 0 P .any ops (lift C Q) n l.toArray a w:=by
 simp only[zmb,jE,w8]at hp;obtain⟨⟨⟨⟨⟨⟨he,k8⟩,k7⟩,k3⟩,k2⟩,v5⟩,hG⟩:=hp
 have j4:∀i,i<ops.size->∀j∈dir ops i,j<i:=λi hi j hj=>by
  have:=jF.1 (jF.1 he i (ao hi)) j hj;simpa using this
 have hC:(fl.map (·.i)).Nodup:=(xC.1 k7).1;have hnc:(core.map (·.1)).Nodup:=(xC.1 k7).2.1;have j3:∀f∈fl,∀c∈core,f.i≠c.1:=λf hf c G=>(xC.1 k7).2.2 _ (jS.2 ⟨f,hf,rfl⟩) _ (jS.2 ⟨c,G,rfl⟩)
 have j2:∀(l:List Bool)(i:Nat),i<l.length->(l.toArray.getD i false=true↔l[i]? =some true):=λl i h=>by
  simp[jI,h]
 intro n
 induction n with
 |zero=>
  intro l j g a w hl xT hn hj hq hr;have hal:=zcX hn
  have v9:∀i,i<l.length->l.toArray.getD i false=true:=λi hi=>by
   have:=jF.1 hal _ (wK hi);simp[jI,hi];simpa using this
  refine⟨uE.2 λi hi=>?_,?_⟩
  ·obtain⟨h1,h2,_⟩:=zr.1 hi;rw[zgH (by simpa[hl]using h1),v9 i aa]at h2;cases h2
  ·have v1:∀i,i∈fl.map (·.i)++core.map (·.1)->l.toArray.getD i false=true\/ops.size<=i:=λi _=>by
    rcases wH i ops.size with h|h
    ·exact .inl (v9 i aa)
    ·exact .inr h
   have hj2:j=core.length:=by
    rcases wH j core.length with h|h
    ·exfalso;obtain⟨c,G⟩:∃c,core[j]? =some c:=⟨_,jC h⟩;have h1:¬l.toArray.getD c.1 false=true:=λe=>by have:=(hq j c G).1 e;omega
     rcases v1 c.1 (List.mem_append_right _ (jS.2 ⟨c,j6 G,rfl⟩))with h2|h2
     ·exact h1 h2
     ·obtain⟨o,ho,_⟩:=hM j c G (λ_=>true) (λ_ _=>rfl);have:=(wU.1 ho).1;omega
    ·omega
   subst hj2;refine⟨_,g,hr,?_⟩
   have hcg:SP (bs core.length) fl (λi=>l.toArray.getD i false)=SP (bs core.length) fl λ_=>true:=zgN λf hf=>by
    rcases v1 f.i (kK _ (jS.2 ⟨f,hf,rfl⟩))with h2|h2
    ·exact h2
    ·rcases(hF core.length (jG _)).get f hf with h3|⟨o,ho,_⟩
     ·exfalso;obtain⟨q,_,h4⟩:=vB.1 h3;cases G:core[q]? with
      |none=>simp[G]at h4
      |some c=>
       simp only[G,wL,jE]at h4;have v0:=(j5.1 G).1;rcases h4 with⟨_,h5⟩|⟨_,h5⟩
       ·have:core.length<=q:=ao h5
        omega
       ·have w2:=(hq q c G).2 v0;obtain⟨o,ho,_⟩:=hM q c G (λ_=>true) (λ_ _=>rfl);have hcs:=(wU.1 ho).1;have h6:=zH xT (xT c.1 hcs w2) (jF.1 v5 c (j6 G)) f.i (yG.1 h5)
        have:f.i<l.length:=by
         rcases wH f.i l.length with h|h
         ·exact h
         ·simp[jI,wO h]at h6
        omega
     ·have:=(wU.1 ho).1;omega
   rw[hcg];exact k4
 |succ n ih=>
  intro l j g a w hl xT hn hj hq hr
  have hex:∃i:Nat,l[i]? =some false/\∀k:Nat,k<i->l[k]? ≠some false:=by
   refine zeB (m:=l.length) ?_;refine jY λhno=>?_
   have:zV l=0:=by
    unfold zV;rw[uF.2 (λb hb=>?_)];rfl;obtain⟨i,hi⟩:=jL.1 hb;cases b
    ·exact absurd ⟨i,(j5.1 hi).1,hi⟩ hno
    ·simp
   omega
  have hne:Region.ready .any ops l.toArray≠[]:=λe=>by
   obtain⟨i,hi,j1⟩:=hex;have v4:=(j5.1 hi).1
   have:i∈Region.ready .any ops l.toArray:=zr.2 ⟨aa,by simp[jI,hi],λk hk=>by
    have hki:=j4 i aa k hk;rw[j2 l k aa];have h1:=j1 k hki;have h2:l[k]? =some l[k]:=jC aa;cases hb:l[k]
    ·rw[hb]at h2;exact absurd h2 h1
    ·rw[hb]at h2;exact h2⟩
   rw[e]at this;simp at this
  refine⟨λe=>absurd e hne,λi hi=>?_⟩;obtain⟨r1,r2,r3⟩:=zr.1 hi;have v4:i<l.length:=aa
  have j0:l[i]? =some false:=by
   simp[jI,v4]at r2;rw[jC v4,r2]
  have hZ:l.toArray.getD i false=false:=by simp[jI,j0]
  have es:l.toArray.setIfInBounds i true=(l.set i true).toArray:=ah
  have x2:∀k,(l.set i true).toArray.getD k false=if i=k then true else l.toArray.getD k false:=λk=>by
   rw[←es];exact zaj (ao v4)
  have w2:zdR ops (l.set i true).toArray:=λk hk k6 m hm=>by
   rw[x2]at k6⊢;by_cases e:i=m
   ·rw[j7 e]
   ·rw[j8 e];by_cases e2:i=k
    ·subst e2;exact r3 m hm
    ·rw[j8 e2]at k6;exact xT k hk k6 m hm
  have hY:zV (l.set i true)=n:=by have:=zdS j0;omega
  have hX:i∈fl.map (·.i)\/i∈core.map (·.1):=by
   have:=jF.1 k3 i (ao r1);simp only[wL]at this;rcases this with h|h
   ·exact .inl (yG.1 h)
   ·exact .inr (yG.1 h)
  rcases hX with hm|hm
  ·obtain⟨f,hf,rfl⟩:=jS.1 hm;rcases(hF j hj).get f hf with h3|⟨o,ho,hg,hd,hdn,k9⟩
   ·exfalso;obtain⟨q,_,h4⟩:=vB.1 h3;cases G:core[q]? with
    |none=>simp[G]at h4
    |some c=>
     simp only[G,wL,jE]at h4;rcases h4 with⟨h5,h6⟩|⟨h5,h6⟩
     ·have h7:=zH xT r3 (jF.1 k2 f hf) c.1 (yG.1 h5);have:=(hq q c G).1 h7;have:j<=q:=ao h6
      omega
     ·have k5:q<j:=ao h5
      have h7:=(hq q c G).2 k5;obtain⟨o,ho,_⟩:=hM q c G (λ_=>true) (λ_ _=>rfl);have h8:=zH xT (xT c.1 (wU.1 ho).1 h7) (jF.1 v5 c (j6 G)) f.i (yG.1 h6);rw[hZ]at h8;cases h8
   ·have hrR:=zxQ (as:=f.as) k8 (λf' v3 hin=>zH xT r3 (jF.1 k2 f hf) f'.i hin) hr;obtain⟨dst,op,ty,pos,af,gd⟩:=o;simp only at hg hd k9;subst hg;subst hd;simp only[wpOpIn,ho];have hw:Region.wanted {dst:=some f.d,op:=op,type:=ty,pos:=pos,after:=af,guard:=none} (yielded ops a.tmps)=true:=rfl;rw[j7 hw];refine zaf (k9 g a w (some f.d) pos af none hrR _ λv w' g' h2 h3 h4 h5=>?_);rw[es];refine ih (l.set f.i true) j g' _ w' (ao hl) w2 hY hj (λq c G=>?_) ?_
    ·rw[x2,j8 (j3 f hf c (j6 G))];exact hq q c G
    ·have h6:=hr.addSt (d:=some f.d) (nb:=none) h2 hdn rfl h3 h4.1 h4.2 (λ_ _ h=>by cases h);refine h6.slots rfl λt x hx=>?_
     have hx:lk (fl.map (λf'=>(f'.d,.ifb ((l.set f.i true).toArray.getD f'.i false) f'.x))++rmK (fl.map (·.d)) (bs j).t) t=some x:=hx;rcases zeA (g:=λf'=>.ifb ((l.set f.i true).toArray.getD f'.i false) f'.x) hx with⟨f',v3,rfl,rfl⟩|⟨h7,h8⟩
     ·by_cases e:f'.i=f.i
      ·have:f'=f:=zbU hC v3 hf e;subst this;have h9:lk ((f'.d,f'.x)::(SP (bs j) fl λi=>l.toArray.getD i false).t) f'.d=some f'.x:=by simp[ym]
       exact .ifb _ _ _ λ_=>h6.tmps f'.d f'.x h9
      ·have v8:f.d≠f'.d:=λe2=>e (jA Fl.i (zbU k8 v3 hf e2.symm))
       have h9:lk ((f.d,f.x)::(SP (bs j) fl λi=>l.toArray.getD i false).t) f'.d=some (.ifb (l.toArray.getD f'.i false) f'.x):=by
        simp only[ym,beqF.2 v8,cond_false];exact zfL (g:=λf=>.ifb (l.toArray.getD f.i false) f.x) k8 v3
       have h10:=h6.tmps f'.d _ h9;show RV g'.I g'.ρ (.ifb ((l.set f.i true).toArray.getD f'.i false) f'.x) _;rw[x2,j8 (λe2=>e e2.symm)];exact h10
     ·have v8:f.d≠t:=h7 f hf;refine h6.tmps t x ?_;show lk ((f.d,f.x)::(SP (bs j) fl λi=>l.toArray.getD i false).t) t=some x;simp only[ym,beqF.2 v8,cond_false];show lk (fl.map (λf=>(f.d,.ifb (l.toArray.getD f.i false) f.x))++rmK (fl.map (·.d)) (bs j).t) t=some x;rw[zfM (g:=λf=>.ifb (l.toArray.getD f.i false) f.x) h7];exact h8
  ·obtain⟨c,v2,rfl⟩:=jS.1 hm;obtain⟨q,x1⟩:=jL.1 v2
   have k5:q=j:=by
    have h1:¬q<j:=λh=>by have:=(hq q c x1).2 h;rw[hZ]at this;cases this
    cases q with
    |zero=>omega
    |succ q=>
     obtain⟨c0,hW⟩:∃c0,core[q]? =some c0:=⟨_,jC (by have:=(j5.1 x1).1;omega)⟩;have h2:=zjD hG hW x1;have h3:=zH xT r3 (jF.1 v5 c v2) c0.1 h2;have:=(hq q c0 hW).1 h3;omega
   subst k5;have v0:=(j5.1 x1).1;obtain⟨o,ho,hg,hQ⟩:=hM q c x1 (λi=>l.toArray.getD i false) (zH xT r3 (jF.1 v5 c v2));obtain⟨dst,op,ty,pos,af,gd⟩:=o;simp only at hg hQ;subst hg;simp only[wpOpIn,ho];have hw:Region.wanted {dst:=dst,op:=op,type:=ty,pos:=pos,after:=af,guard:=none} (yielded ops a.tmps)=true:=rfl;rw[j7 hw];refine zaf (hQ g a w pos af none hr _ λa' w' g' h'=>?_);rw[es];refine ih (l.set c.1 true) (q+1) g' a' w' (ao hl) w2 hY aa (λq' c' x0=>?_) ?_
   ·rw[x2];by_cases e:c.1=c'.1
    ·rw[j7 e]
     have hI:q'=q:=by
      have h1:(core.map (·.1))[q']? =some c'.1:=by rw[j9,x0];rfl
      have h2:(core.map (·.1))[q]? =some c'.1:=by rw[j9,x1];simp[e]
      exact(xB (by simpa using(j5.1 x0).1) hnc).1 (h1.trans h2.symm)
     subst hI;exact⟨λ_=>by omega,λ_=>rfl⟩
    ·rw[j8 e];rw[hq q' c' x0];have hI:q'≠q:=λe2=>by subst e2;rw[x1]at x0;injection x0 with x0;subst x0;exact e rfl
     omega
   ·rw[zgN (β':=λi=>l.toArray.getD i false) λf hf=>by rw[x2,j8 (λe=>j3 f hf c v2 e.symm)]];exact h'
def X.drawQ{l:List Oper}(fl:List Fl)(core:List (Nat×List Nat))(bs:Nat->St)(hm:P.follows .mixedOrders=true)(hp:zmb l.toArray fl core=true)(hi:Imp C st (SP (bs 0) fl λ_=>false))
 (hF:∀j,j<=core.length->zeD P C l.toArray core fl (bs j) j fl)(hM:∀j c,core[j]? =some c->∀β:Nat->Bool,(∀a∈c.2,β a=true)->zbb P C l.toArray c.1 (SP (bs j) fl β) (SP (bs (j+1)) fl β))(xT:Q .normal (SP (bs core.length) fl λ_=>true)):X P C (.region rid l.toArray true) st Q:=λg a w hr=>by
 refine wpIn_region_any hm ?_;obtain⟨g1,G⟩:=hi g a w hr;have x2:Rel C (SP (bs 0) fl λ_=>false) g1 a w.drew:=G.add (nk:=none) (d:=none) (x:=.any) (v:=.nilIface) ⟨Im.le_refl _,λ_ _=>rfl,λ_ _=>rfl,Grow.drew w⟩ (λk h=>by simp at h) (λt h=>by simp at h) (.any _) G.sat.im G.sat.ob
 have hz:∀k,(List.replicate l.length false).toArray.getD k false=false:=λk=>by
  simp only[jI,xA,uS];split<;>rfl
 have h:=Rse.drawQ hp hF hM xT (zV (List.replicate l.length false)) (List.replicate l.length false) 0 g1 a w.drew ah (λi _ hi=>by rw[hz]at hi;cases hi) rfl (jU _) (λq c _=>by rw[hz];exact⟨λh=>(by cases h),λh=>aa⟩) (by
  rw[zgN (β':=λ_=>false) λf _=>hz f.i];exact x2)
 have e1:zV (List.replicate l.length false)=l.toArray.size:=by simp[zV]
 have e2:(List.replicate l.length false).toArray=Array.replicate l.toArray.size false:=ah
 rw[e1,e2]at h;exact h
def zhD{enc:α->List AV}(hx:ev st x=some (.sl enc l))(hy:ev st y=some (.int kk i))(ht:slOk P t E=true)(hE:tyOk P E ag s=true)(he:∀x,(enc x).length=s)
 (h0:0<=i)(h1:i<=l.length):Pur P C (.slice t x none (some y) none) ty st (.sl enc (l.take i.toNat)):=λg a w dst pos af gd hr=>by
 obtain⟨A,b,o,s',c,vs,e,hA,hc,hm,hs,hI,hv⟩:=zcF (yq hr hx);have ey:=yK (yq hr hy);have hl:(l.take i.toNat).length=i.toNat:=by rw[jO];omega
 have hb:(Instr.sliceBounds true l.length c none (some (.int kk i)) none).run P w=.ok (0,i.toNat,c) w:=by
  simp[Instr.sliceBounds,Instr.sliceBound,asIntOf,h0];omega
 refine⟨.slice (if c=0 then A else A.map (·.add (0*s))) i.toNat c,?_,?_⟩
 ·simp[execOp,Instr.sliceAt,Instr.slice,run_underlying (yS ht),e,ey,hb,yJ hE]
 ·have G:∀{j:Nat}{x:α},(l.take i.toNat)[j]? =some x->l[j]? =some x:=λ{j x}h=>by
   rw[w4]at h;split at h
   ·exact h
   ·simp at h
  have x2:l.take i.toNat≠[]->(if c=0 then A else A.map (·.add (0*s)))=some ⟨b,o,none⟩:=λx1=>by
   have xT:l≠[]:=λe=>x1 (by rw[e];simp)
   have:=uZ.2 xT;rw[j8 aa,hA xT];simp[zG]
  have:=RV.sl (I:=g.I) (ρ:=g.ρ) enc (l.take i.toNat) (if c=0 then A else A.map (·.add (0*s))) b o s' c vs x2 (by rw[hl];omega) hm (λj x h=>hs j x (G h)) (λj x q h=>hI j x q (G h)) (λj x q cell h=>hv j x q cell (G h));rw[hl]at this;exact this
def zb2{enc:α->List AV}(hx:ev st x=some (.sl enc l))(hy:ev st y=some (.int kk i))(ht:slOk P t E=true)(hE:tyOk P E ag s=true)(he:∀x,(enc x).length=s)
 (h0:0<=i)(h1:i<=l.length):Pur P C (.slice t x (some y) none none) ty st (.sl enc (l.drop i.toNat)):=λg a w dst pos af gd hr=>by
 obtain⟨A,b,o,s',c,vs,e,hA,hc,hm,hs,hI,hv⟩:=zcF (yq hr hx);have ey:=yK (yq hr hy);have hl:(l.drop i.toNat).length=l.length-i.toNat:=vC
 have hb:(Instr.sliceBounds true l.length c (some (.int kk i)) none none).run P w=.ok (i.toNat,l.length,c) w:=by
  simp[Instr.sliceBounds,Instr.sliceBound,asIntOf,h0,h1]
 refine⟨.slice (if c=i.toNat then A else A.map (·.add (i.toNat*s))) (l.length-i.toNat) (c-i.toNat),?_,?_⟩
 ·simp[execOp,Instr.sliceAt,Instr.slice,run_underlying (yS ht),e,ey,hb,yJ hE]
 ·have G:∀{j:Nat}{x:α},(l.drop i.toNat)[j]? =some x->l[i.toNat+j]? =some x:=λ{j x}h=>by
   rwa[wI]at h
  have xT:∀{j:Nat}{x:α},(l.drop i.toNat)[j]? =some x->s'=s:=λ{j x}h=>(hs _ _ (G h)).symm.trans (he x)
  have x1:l.drop i.toNat≠[]->(if c=i.toNat then A else A.map (·.add (i.toNat*s)))=some ⟨b,o+i.toNat*s,none⟩:=λx2=>by
   have x0:l≠[]:=λe=>x2 (by rw[e];simp)
   have:=uZ.2 x2;rw[j8 aa,hA x0];simp[zG]
  have:=RV.sl (I:=g.I) (ρ:=g.ρ) enc (l.drop i.toNat) (if c=i.toNat then A else A.map (·.add (i.toNat*s))) b (o+i.toNat*s) s (c-i.toNat) (λj q=>vs (i.toNat+j) q) x1 (by rw[hl];omega) aa (λj x h=>he x)
   (λj x q h hq=>by
    have w2:q<s':=by rw[xT h];exact hq
    have:=hI _ _ q (G h) w2;rw[xT h,Nat.add_mul,←uB o]at this;exact this) (λj x q cell h=>hv _ _ q cell (G h))
  rw[hl]at this;exact this
end
section
variable{P:Program}{C:Ctx}{st:St}{ops:Array Oper}{fl:List Fl}{core:List (Nat×List Nat)}{bs:Nat->St}
variable{an:List Nat}{b:St}{β:Nat->Bool}
def S0(fl:List Fl)(an:List Nat)(β:Nat->Bool)(b:St):St:=⟨fl.map (λf=>(f.d,cond (memb f.i an) f.x (.ifb (β f.i) f.x)))++rmK (fl.map (·.d)) b.t,b.h⟩
def zxS{an:List Nat}{β:Nat->Bool}{b:List (Nat×AV)}{t:Nat}{x:AV}:∀{fl:List Fl},lk (fl.map (λf=>(f.d,cond (memb f.i an) f.x (.ifb (β f.i) f.x)))++b) t=some x->∃y,lk (fl.map (λf=>(f.d,.ifb (β f.i) f.x))++b) t=some y/\(x=y\/∃f:Fl,memb f.i an=true/\x=f.x/\y=.ifb (β f.i) f.x)
 |[],h=>⟨x,by simpa using h,.inl rfl⟩
 |f::r,h=>by
  simp only[wW,wY,ym]at h⊢;cases G:f.d.beq t<;>simp[G]at h⊢
  ·exact zxS h
  ·cases hm:memb f.i an<;>simp[hm]at h
   ·exact .inl h.symm
   ·exact .inr ⟨f,hm,h.symm,rfl,rfl⟩
def zs7(hβ:∀a∈an,β a=true):Imp C (SP b fl β) (S0 fl an β b):=λg a w hr=>⟨g,⟨hr.size,hr.defers,λt x hx=>by
 obtain⟨y,h1,h2⟩:=zxS hx;have G:=hr.tmps t y h1;rcases h2 with rfl|⟨f,hm,rfl,rfl⟩
 ·exact G
 ·exact zeC (hβ _ (yG.1 hm)) _ _ _ G,hr.sat,hr.ext⟩⟩
def zs8(P:Program)(C:Ctx)(ops:Array Oper)(fl:List Fl)(bs:Nat->St):Nat->List (Nat×List Nat)->Prop
 |_,[]=>True
 |j,c::r=>(∀β:Nat->Bool,∃(o:Oper)(st':St),ops[c.1]? =some o/\o.guard=none/\yu P C o.op o.type o.dst (S0 fl c.2 β (bs j)) st'/\Imp C st' (SP (bs (j+1)) fl β))/\zs8 P C ops fl bs (j+1) r
def zs8.get:∀{L:List (Nat×List Nat)}{j k:Nat}{c:Nat×List Nat},zs8 P C ops fl bs j L->L[k]? =some c->∀β:Nat->Bool,(∀a∈c.2,β a=true)->zbb P C ops c.1 (SP (bs (j+k)) fl β) (SP (bs (j+k+1)) fl β)
 |[],j,k,c,_,h=>by simp at h
 |d::r,j,0,c,G,h=>λβ hβ=>by
  injection h with h;subst h;obtain⟨o,st',h1,h2,h3,h4⟩:=G.1 β;exact⟨o,h1,h2,zJ (zcq (zs7 hβ) h3) h4⟩
 |d::r,j,k+1,c,G,h=>λβ hβ=>by
  have:=zs8.get G.2 (show r[k]? =some c by simpa using h) β hβ;rw[show j+1+k=j+(k+1)by omega]at this;exact this
def zY{rid:Nat}{l:List Oper}{Q:Exit->St->Prop}(fl:List Fl)(core:List (Nat×List Nat))(bs:Nat->St)(hm:P.follows .mixedOrders=true)(hi:Imp C st (SP (bs 0) fl λ_=>false))
 (hF:∀j,j<=core.length->zeD P C l.toArray core fl (bs j) j fl)(hM:zs8 P C l.toArray fl bs 0 core)(G:Q .normal (SP (bs core.length) fl λ_=>true))(hp:zmb l.toArray fl core=true:=by kernel_rfl):X P C (.region rid l.toArray true) st Q:=
 X.drawQ fl core bs hm hp hi hF (λj c hc β hβ=>by have:=hM.get hc β hβ;rw[u6]at this;exact this) G
def Co2{i:Nat}{s s' st':St}{dst:Option Tmp}{op:Op}{ty:TypeId}{pos:String}{af:Array Edge}(ho:ops[i]? =some {dst:=dst,op:=op,type:=ty,pos:=pos,after:=af,guard:=none})(hs:yu P C op ty dst s st')
 (hi:Imp C st' s':=by exact Imp.of (by repeat'(first|exact True.intro|(refine And.intro ⟨_,rfl,?_⟩ ?_;(first|exact LeV.refl _|exact zcp _ _|exact LeV.any _|exact LeB.refl _|(refine LeV.eq ?_;simp;done)|(refine LeV.eq ?_;congr 1;omega)|(refine LeV.eq ?_;dsimp only;congr 1;omega)|(refine LeV.eq (jA (AV.int _) ?_);omega)|exact LeV.nils _|exact LeB.row ai|(refine LeB.eq ?_;congr 1;omega)|(refine LeB.eq ?_;congr 1;simp only[cond_true,cond_false];omega))))) (by repeat'(first|exact True.intro|(refine And.intro ⟨_,rfl,?_⟩ ?_;(first|exact LeB.refl _|exact LeB.row ai|(refine LeB.eq ?_;congr 1;omega)|(refine LeB.eq ?_;congr 1;simp only[cond_true,cond_false];omega)))))):
 ∃(o:Oper)(st':St),ops[i]? =some o/\o.guard=none/\yu P C o.op o.type o.dst s st'/\Imp C st' s':=⟨_,_,ho,rfl,hs,hi⟩
end
end Go.Rse
namespace Go.Rse
open Go Go.RowKit
section
variable{P:Program}{C:Ctx}{st:St}{ty:TypeId}
variable{ag:Bool}{i j:Int}{s:Nat}{α:Type}{l:List α}
def zcY{enc:α->List AV}{E t:TypeId}{x y z:Operand}{kk kj:IntKind}(hx:ev st x=some (.sl enc l))(hy:ev st y=some (.int kk i))(hz:ev st z=some (.int kj j))(ht:slOk P t E=true)(hE:tyOk P E ag s=true)(he:∀x,(enc x).length=s)
 (h0:0<=i)(h1:i<=j)(h2:j<=l.length):Pur P C (.slice t x (some y) (some z) none) ty st (.sl enc ((l.drop i.toNat).take (j.toNat-i.toNat))):=λg a w dst pos af gd hr=>by
 obtain⟨A,b,o,s',c,vs,e,hA,hc,hm,hs,hI,hv⟩:=zcF (yq hr hx);have ey:=yK (yq hr hy);have ez:=yK (yq hr hz);have hl:((l.drop i.toNat).take (j.toNat-i.toNat)).length=j.toNat-i.toNat:=by rw[jO,vC];omega
 have x1:j<=(c:Int):=aa
 have x0:0<=j:=aa
 have hb:(Instr.sliceBounds true l.length c (some (.int kk i)) (some (.int kj j)) none).run P w=.ok (i.toNat,j.toNat,c) w:=by
  have v5:i<=((j.toNat:Nat):Int):=aa
  simp[Instr.sliceBounds,Instr.sliceBound,asIntOf,h0,x0,x1];omega
 refine⟨.slice (if c=i.toNat then A else A.map (·.add (i.toNat*s))) (j.toNat-i.toNat) (c-i.toNat),?_,?_⟩
 ·simp[execOp,Instr.sliceAt,Instr.slice,run_underlying (yS ht),e,ey,ez,hb,yJ hE]
 ·have G:∀{q:Nat}{x:α},((l.drop i.toNat).take (j.toNat-i.toNat))[q]? =some x->l[i.toNat+q]? =some x:=λ{q x}h=>by
   rw[w4]at h;split at h
   ·rwa[wI]at h
   ·simp at h
  have xT:∀{q:Nat}{x:α},((l.drop i.toNat).take (j.toNat-i.toNat))[q]? =some x->s'=s:=λ{q x}h=>(hs _ _ (G h)).symm.trans (he x)
  have w2:(l.drop i.toNat).take (j.toNat-i.toNat)≠[]->(if c=i.toNat then A else A.map (·.add (i.toNat*s)))=some ⟨b,o+i.toNat*s,none⟩:=λx2=>by
   have v9:l≠[]:=λe=>x2 (by rw[e];simp)
   have:=uZ.2 x2;rw[j8 aa,hA v9];simp[zG]
  have:=RV.sl (I:=g.I) (ρ:=g.ρ) enc ((l.drop i.toNat).take (j.toNat-i.toNat)) (if c=i.toNat then A else A.map (·.add (i.toNat*s))) b (o+i.toNat*s) s (c-i.toNat) (λj q=>vs (i.toNat+j) q) w2 (by rw[hl];omega) aa (λj x h=>he x)
   (λq x q2 h hq=>by
    have v8:q2<s':=by rw[xT h];exact hq
    have:=hI _ _ q2 (G h) v8;rw[xT h,Nat.add_mul,←uB o]at this;exact this) (λq x q2 cell h=>hv _ _ q2 cell (G h))
  rw[hl]at this;exact this
def zpI{x y:Operand}{ts:Array TypeId}{k k':IntKind}{i j:Int}(hx:ev st x=some (.int k i))(G:ev st y=some (.int k' j)):Pur P C (.call {callee:=.builtin .max,args:= #[x,y],argTypes:=ts}) ty st (.int k (max i j)):=λg a w dst pos af gd hr=>by
 have ex:=yK (yq hr hx);have ey:=yK (yq hr G);refine⟨.int k (if j>i then j else i),?_,?_⟩
 ·simp[execOp,resolve,invoke,builtin,Builtin.max_,Builtin.max2,ex,ey]
 ·have e:(if j>i then j else i)=max i j:=by
   by_cases h:j>i
   ·rw[j7 h];omega
   ·rw[j8 h];omega
  rw[e];exact .int _ _
end
end Go.Rse
namespace Go.Rse
open Go Go.RowKit
variable{D E:List Nat}{P:Program}{a:Act}{c:Code}{d:Nat}{ds:List Deferred}{e:Exit}{f:FuncId}{fn:Func}{g g3:Gh}{kp:List Nat}{n:Nat}{rv:List ResultVar}{st:St}{tl:List Nat}{u u':FrameMode}{v:Value}{vals:List Value}{w:World}{x:Nat}
section
variable{P:Program}{C:Ctx}{st:St}{ty:TypeId}{Q:Exit->St->Prop}
variable{I:Im}{T:TypeId}{k:IntKind}{n:Int}{t:TypeId}{v:Value}{x:Operand}{yt:TypeId}{ρ:Nat->Value}
abbrev ifV(t:TypeId)(k:IntKind)(n:Int):Value:=.iface t (.agg #[.int k n])
def zs9(h:RV I ρ (.agg [.int k n]) v):v=.agg #[.int k n]:=by
 obtain⟨vs,e,hl,G⟩:=zaM h;subst e
 match vs,hl with
 |[u],_=>
  have:=yK (G 0 _ u rfl rfl);subst this;rfl
def zu7(k:IntKind)(n:Int):RV I ρ (.agg [.int k n]) (.agg #[.int k n]):=
 RV.agg [.int k n] [.int k n] rfl λj c v G hv=>by
  match j with
  |0=>simp at G hv;subst G;subst hv;exact .int _ _
  |j+1=>simp at G
def zmc(hx:ev st x=some (.agg [.int k n]))(G:∃fs,P.underlying t=some (.struct fs)):Pur P C (.makeInterface t x) ty st (.val (ifV t k n)):=λg a w dst pos af gd hr=>by
 have e:=zs9 (yq hr hx);obtain⟨fs,G⟩:=G;exact⟨_,by simp[execOp,e,Instr.makeInterface,run_underlying G],.val _⟩
def zka(G:∃ms,P.underlying T=some (.interface ms))(w:World):(Op.equal T (.iface t v) .nilIface).run P w=.ok false w:=by
 obtain⟨ms,G⟩:=G;unfold Op.equal;rw[show Op.maxDepth=9999+1 from rfl];unfold Op.equalIn;simp[run_underlying G]
def zh5(G:∃ms,P.underlying T=some (.interface ms))(w:World):(Op.equal T .nilIface .nilIface).run P w=.ok true w:=by
 obtain⟨ms,G⟩:=G;unfold Op.equal;rw[show Op.maxDepth=9999+1 from rfl];unfold Op.equalIn;simp[run_underlying G]
def zm7(G:∃ms,P.underlying T=some (.interface ms))(hx:ev st x=some (.val (.iface t v))):Pur P C (.binOp .neq T x (.const .nilIface) yt) ty st (.bool true):=λg a w dst pos af gd hr=>by
 have e:=zac (yq hr hx);have e0:a.eval (.const .nilIface)=.nilIface:=rfl;refine⟨.bool true,?_,.bool _⟩;have hg:(eqGuard .neq T x (.const .nilIface) (.iface t v) .nilIface).run P w=.ok () w:=by unfold eqGuard;simp
 simp only[execOp,e,e0,jM,hg,jH,binOp,zka G,jP];rfl
def zjE(G:∃ms,P.underlying T=some (.interface ms))(hx:ev st x=some (.val .nilIface)):Pur P C (.binOp .neq T x (.const .nilIface) yt) ty st (.bool false):=λg a w dst pos af gd hr=>by
 have e:=zac (yq hr hx);have e0:a.eval (.const .nilIface)=.nilIface:=rfl;refine⟨.bool false,?_,.bool _⟩;have hg:(eqGuard .neq T x (.const .nilIface) .nilIface .nilIface).run P w=.ok () w:=by unfold eqGuard;simp
 simp only[execOp,e,e0,jM,hg,jH,binOp,zh5 G,jP];rfl
def zkb{xT:TypeId}(hx:ev st x=some (.val (ifV t k n)))(hu:∃fs,P.underlying t=some (.struct fs)):Pur P C (.typeAssert x xT t true) ty st (.tup [.agg [.int k n],.bool true]):=λg a w dst pos af gd hr=>by
 have e:=zac (yq hr hx);obtain⟨fs,hu⟩:=hu;refine⟨.tuple #[.agg #[.int k n],.bool true],by simp[execOp,e,Instr.typeAssert,run_underlying hu],?_⟩
 exact RV.tup [.agg [.int k n],.bool true] [.agg #[.int k n],.bool true] rfl λj c v G hv=>by
  match j with
  |0=>simp at G hv;subst G;subst hv;exact zu7 _ _
  |1=>simp at G hv;subst G;subst hv;exact .bool _
  |j+2=>simp at G
abbrev pnc(v:Value):Exit:=.panic [{v:=v,recovered:=false}]
def Ex.panic{ops:Array Oper}{rest:List Oper}{dst:Option Tmp}{pos:String}{af:Array Edge}{x:Operand}{t:TypeId}{u:Value}(G:Q (pnc (.iface t u)) st)(hx:ev st x=some (.val (.iface t u)):=by exact rfl):
 Ex P C ops ({dst:=dst,op:=.panic x,type:=ty,pos:=pos,after:=af,guard:=none}::rest) st Q:=λg a w hr=>
 wpListIn_plain rfl λK hK=>⟨λf _=>C.F_fn f,by
  have e:=zac (yq hr hx);rw[Oper.semAt_eq _ _ _ ah];have:(execOp a.eval {dst:=dst,op:=.panic x,type:=ty,pos:=pos,after:=af,guard:=none}).run P w=.halt (.panic (.iface t u)) w:=by simp[execOp,e,Instr.panic,goPanic]
  rw[this];exact⟨st,g,hr,G⟩⟩
def FnP(P:Program)(f:FuncId)(as:List AV)(hs:List (Nat×Blk))(kp:List Nat)(pv:Value)(hs':List (Nat×Blk)):Prop:=
 FnR P f as hs kp (λe v=>e=.panicked [{v:=pv,recovered:=false}]) (.tup []) hs'
def zu8{ops:Array Oper}{rest:List Oper}{dst:Option Tmp}{pos:String}{af:Array Edge}{fop:Operand}{args:Array Operand}{ts:Array TypeId}{f:FuncId}{caps xs ass:List AV}{hs G:List (Nat×Blk)}{kp:List Nat}{pv:Value}
 (μ:List (Nat×Nat))(h:FnP P f ass hs kp pv G)(hf:ev st fop=some (.fn f caps))(hx:evs st args.toList=some xs)(hμ:biOk μ=true)(x1:LeL (xs++caps) (ass.map (AV.ren μ)))(x0:ass.all (AV.okN (keys hs))=true)
 (w2:zaq st μ (keys hs) hs)(xT:∀p∈G,(fwd μ p.1).isSome=true/\p.2.okNB (keys G)=true)(x2:∀p∈μ,kp.any (·.beq p.1)=true\/(hs.any (·.1.beq p.1)=true/\G.any (·.1.beq p.1)=false)\/(hs.any (·.1.beq p.1)=false/\st.fr p.2=true))
 (v9:∀n∈kp,hs.any (·.1.beq n)=true)(hq:Q (pnc pv) (za5 st μ hs G none (.tup []))):
 Ex P C ops ({dst:=dst,op:=.call {callee:=.value fop,args:=args,argTypes:=ts},type:=ty,pos:=pos,after:=af,guard:=none}::rest) st Q:=λg a w hr=>
 wpListIn_plain rfl λK hK=>⟨λf _=>C.F_fn f,by
  obtain⟨A,e2,h0⟩:=zhl (dst:=none) (ty:=ty) (ts:=ts) μ h hf hx hμ x1 x0 rfl w2 xT x2 v9 rfl hr;rw[Oper.semAt_eq _ _ _ ah];have e3:(execOp a.eval {dst:=dst,op:=.call {callee:=.value fop,args:=args,argTypes:=ts},type:=ty,pos:=pos,after:=af,guard:=none}).run P w=.ok (.enter f A) w:=e2 pos af none;rw[e3];refine⟨λhx=>by rw[C.F_depth]at hx;simp at hx,?_⟩;refine CallsIn.mono (C.calls h0) ?_
  rintro e w''⟨v,g',rfl,v8⟩
  exact⟨_,g',v8,hq⟩⟩
def zAe{ops:Array Oper}{rest:List Oper}{dst:Option Tmp}{pos:String}{af:Array Edge}{fop:Operand}{args:Array Operand}{ts:Array TypeId}{f:FuncId}{caps xs as':List AV}{hs G:List (Nat×Blk)}{kp:List Nat}{pv:Value}
 (μ:List (Nat×Nat))(h:FnP P f as' hs kp pv G)(hq:Q (pnc pv) (za5 st μ hs G none (.tup [])))(hf:ev st fop=some (.fn f caps):=by exact rfl)(hx:evs st args.toList=some xs:=by exact rfl)(hμ:biOk μ=true:=by exact rfl)(x1:LeL (xs++caps) (as'.map (AV.ren μ)):=by exact LeL.refl _)(x0:as'.all (AV.okN (keys hs))=true:=by exact rfl)
 (w2:zaq st μ (keys hs) hs:=by repeat'(first|exact True.intro|refine And.intro ⟨_,_,rfl,rfl,LeB.refl _,rfl⟩ ?_))(xT:(G.all λp=>(fwd μ p.1).isSome&&p.2.okNB (keys G))=true:=by exact rfl)
 (x2:(μ.all λp=>kp.any (·.beq p.1)||(hs.any (·.1.beq p.1)&&!(G.any (·.1.beq p.1)))||(!(hs.any (·.1.beq p.1))&&st.fr p.2))=true:=by exact rfl)
 (v9:(kp.all λn=>hs.any (·.1.beq n))=true:=by exact rfl):
 Ex P C ops ({dst:=dst,op:=.call {callee:=.value fop,args:=args,argTypes:=ts},type:=ty,pos:=pos,after:=af,guard:=none}::rest) st Q:=by
 refine zu8 μ h hf hx hμ x1 x0 w2 (λp hp=>?_) (λp hp=>?_) (λn hn=>jF.1 v9 n hn) hq
 ·have:=jF.1 xT p hp;simpa using this
 ·have:=jF.1 x2 p hp;simp only[wL,jE,wP]at this;rcases this with(h1|h1)|h1
  ·exact .inl h1
  ·exact .inr (.inl h1)
  ·exact .inr (.inr h1)
end
def XW(P:Program)(C:Ctx)(c:Code)(st:St)(K:Exit->Act->World->Prop):Prop:=∀g a w,Rel C st g a w->c.wpIn C.F 0 P K a w
def QW(C:Ctx)(K:Exit->Act->World->Prop):Exit->St->Prop:=λe st=>∀g a w,Rel C st g a w->K e a w
section
variable{P:Program}{C:Ctx}{st:St}{K:Exit->Act->World->Prop}
variable{c:Code}
def XW.of(h:X P C c st (QW C K)):XW P C c st K:=λg a w hr=>wpIn_mono (h g a w hr) λe a w⟨st,g,hr,q⟩=>q g a w hr
def XW.seq{x y:Code}(h:X P C x st (zcb (λst=>XW P C y st K) (QW C K))):XW P C (.seq x y) st K:=λg a w hr=>
 wpIn_seq (wpIn_mono (h g a w hr) λe a w⟨st,g,hr,q⟩=>by
  cases e<;>exact q g a w hr)
def XW.defer{id:Nat}{t:Nat}{f:FuncId}{cs:Array Operand}{xs:List AV}{ty1 ty2:TypeId}{p1 p2:String}{af1 af2:Array Edge}{ts:Array TypeId}{c:Code}(kD:Nat)
 (h:∀us,XW P {C with df:=[(.func f,us, #[])]} c ⟨(t,.fn f xs)::st.t,(kD,.hold us.toList xs)::st.h⟩ K)(x2:C.rd=none:=by rfl)(hx:cs.toList.mapM (ev st)=some xs:=by exact rfl)(ht:t.blt C.n=true:=by rfl)(x1:C.df=[]:=by rfl):
 XW P C (.seq (.region id #[{dst:=some t,op:=.makeFunc (.func f) #[] cs,type:=ty1,pos:=p1,after:=af1,guard:=none},{dst:=none,op:=.defer {callee:=.value (.tmp t),args:= #[],argTypes:=ts},type:=ty2,pos:=p2,after:=af2,guard:=none}] false) c) st K:=λg a w hr=>
 wpIn_seq<|wpIn_region_lit (l:=[_,_])<|wpListIn_plain rfl λK1 x0=>zaf<|by
  have hF:C.F.round=none:=by unfold Ctx.F;rw[x2];rfl
  obtain⟨v,h1,h2⟩:=zfI (ty:=ty1) hx g a w (some t) p1 af1 none hr;unfold wp1;rw[h1];refine x0 _ _ ?_;obtain⟨us,e,hl,hu⟩:=zcE h2;subst e;have xT:t<a.tmps.size:=by rw[hr.size];simpa using ht
  have w2:(a.put (some t) (.func (.func f) #[] us.toArray)).eval (.tmp t)=.func (.func f) #[] us.toArray:=by
   show(a.put (some t) (.func (.func f) #[] us.toArray)).tmps.getD t undef=_;rw[zaS xT,j7 rfl]
  refine wpListIn_plain rfl λK2 v9=>⟨λf _=>C.F_fn f,?_⟩
  rw[hF,Oper.semAt_none]
  have h3:(execOp (a.put (some t) (.func (.func f) #[] us.toArray)).eval {dst:=none,op:=.defer {callee:=.value (.tmp t),args:= #[],argTypes:=ts},type:=ty2,pos:=p2,after:=af2,guard:=none}).run P w=.ok (.defer {target:=.fn (.func f) us.toArray,args:= #[]}) w:=by
   simp only[execOp,resolve,w2,Deferred.ofValue,jM,jP,jH];simp
  rw[h3];refine v9 _ _ (wpListIn_nil ?_);refine h us.toArray g _ w ?_;refine⟨by simp[Act.put,hr.size],?_,λt' x G=>?_,⟨hr.sat.im,hr.sat.ob,λk B hB=>?_⟩,⟨hr.ext.I,hr.ext.os,hr.ext.tape,hr.ext.output,hr.ext.drawn,hr.ext.size,hr.ext.keep,hr.ext.own⟩⟩
  ·obtain⟨D,p1,p2,p3⟩:=hr.defers;obtain⟨D1,D2,rfl,q⟩:=p1;rw[x1]at q;refine⟨D1++D2,⟨[],D1++D2,rfl,?_⟩,p2,p3⟩;show{target:=.fn (.func f) us.toArray,args:= #[]}::a.defers=_;rw[q];simp[dfD]
  ·show RV g.I g.ρ x ((a.put (some t) (.func (.func f) #[] us.toArray)).tmps.getD t' undef);rw[zaS xT];simp only[ym]at G;by_cases e:t=t'
   ·subst e;simp at G;subst G;rw[j7 rfl];exact h2
   ·rw[j8 e];have:t.beq t'=false:=beqF.2 e;simp[this]at G;exact hr.tmps t' x G
  ·simp only[ym]at hB;cases hb:kD.beq k
   ·simp only[hb,cond_false]at hB;have:=hr.sat.blk k B hB;cases B<;>exact this
   ·simp only[hb,cond_true]at hB;injection hB with hB;subst hB;exact⟨by simpa using hl,λj c v hc hv=>hu j c v hc (ao hv)⟩
end
def zAf{C:Ctx}(h:Sh C (mkD x::ds) D):∃D',D=x::D'/\Sh C ds D':=by
 obtain⟨D1,D2,rfl,h⟩:=h;cases D1 with
 |cons e r=>
  simp only[wW,wY,kL]at h;obtain⟨h1,h2⟩:=h;have:=zpA h1;subst this;exact⟨r++D2,rfl,r,D2,rfl,h2⟩
 |nil=>
  cases G:C.df with
  |nil=>
   rw[G]at h;cases D2 with
   |nil=>simp at h
   |cons e r=>
    simp only[kE,xX,wW,kL]at h;obtain⟨h1,h2⟩:=h;have:=zpA h1;subst this;exact⟨r,rfl,[],r,rfl,by rw[G];simpa using h2⟩
  |cons e r=>
   rw[G]at h;simp only[kE,xX,wW,wY,kL]at h;exact absurd (jA Deferred.target h.1) (by simp[dfD,mkD])
def zhE{C:Ctx}{P:Program}{st:St}{tmps:Array Value}{x:Nat}{ds:List Deferred}{g:Gh}{w:World}(hr:Rel C st g {tmps:=tmps,defers:=mkD x::ds} w):∃w',(Instr.takeDeferred x).run P w=.ok [] w'/\Rel C st g {tmps:=tmps,defers:=ds} w':=by
 obtain⟨D,hD,xT,x2⟩:=hr.defers;obtain⟨D',rfl,v9⟩:=zAf (show Sh C (mkD x::ds) D from hD);obtain⟨h1,h2,h3⟩:=x2 x ah;have v8:x<w.heap.size:=zb h1;let w':World:={w with heap:=w.heap.setIfInBounds x (.deferred none)}
 have hm:w.grownBy w' (some x):=⟨rfl,rfl,rfl,by simp[w'],λk hk G=>by
  have:x≠k:=λe=>G (by rw[e])
  simp[w',this]⟩
 refine⟨w',run_takeDeferred h1,?_⟩
 have x1:∀b o u,g.I b o=some u->w'.cell? ⟨b,o,none⟩=some u/\g.O b=none:=λb o u hI=>by
  obtain⟨h4,h5⟩:=hr.sat.im b o u hI;refine⟨?_,h5⟩
  have G:b≠x:=λe=>by
   subst e;simp only[World.cell?,h1]at h4;simp at h4
  rw[World.cell?_of_block (w:=w) (a:=⟨b,o,none⟩) (hm.block b (zch h4) (ao G))];exact h4
 have x0:ObO g.I g.O w':=hr.sat.ob.up (Im.le_refl _) hm.size;refine⟨hr.size,⟨D',v9,(vR.1 xT).2,λy hy=>?_⟩,hr.tmps,⟨x1,x0,λk B hB=>(hr.sat.blk k B hB).farN hm (jG _) h2 h3 ⟨x1,x0⟩⟩,?_⟩
 ·obtain⟨h4,h5,h6⟩:=x2 y (by simp[hy]);have w2:y<w.heap.size:=zb h4;have G:y≠x:=λe=>(vR.1 xT).1 (e▸hy)
  exact⟨(hm.block y w2 (ao G)).trans h4,h5,h6⟩
 ·exact⟨hr.ext.I,hm.os.trans hr.ext.os,hm.tape.trans hr.ext.tape,hm.output.trans hr.ext.output,hr.ext.drawn,jV hr.ext.size hm.size,λb hb hn ho=>by
   have G:b≠x:=λe=>by subst e;omega
   obtain⟨h4,h5⟩:=hr.ext.keep b hb hn ho;exact⟨(hm.block b (w7 hb hr.ext.size) (ao G)).trans h4,h5⟩,hr.ext.own⟩
def zeW{C:Ctx}{P:Program}{fn:Func}{R:Ending->World->Prop}{st:St}{tmps:Array Value}{u:FrameMode}(G:u≠.run){tl:List Deferred}(hK:∀g w,Rel C st g {tmps:=tmps,defers:=tl} w->LeavesInM Fence.wide 0 P fn tmps R tl u w):
 ∀(D1:List Nat){g:Gh}{w:World},Rel C st g {tmps:=tmps,defers:=D1.map mkD++tl} w->LeavesInM Fence.wide 0 P fn tmps R (D1.map mkD++tl) u w
 |[],g,w,hr=>hK g w hr
 |x::D1,g,w,hr=>by
  obtain⟨w',h1,h2⟩:=zhE (P:=P) (x:=x) (ds:=D1.map mkD++tl) hr;exact⟨G,.inl ⟨x,w',rfl,h1,zeW G hK D1 h2⟩⟩
abbrev Ctx.bare(C:Ctx):Ctx:={C with df:=[]}
def zoa{C:Ctx}(h:Rel C st g a w)(he:a.defers=ds)(hs:Sh C a.defers E)(ht:∀r∈tl,r∈E)(hn:tl.Nodup):Rel C.bare st g {a with defers:=tl.map mkD} w:=by
 obtain⟨D,h1,h2,G⟩:=h.defers;refine⟨h.size,⟨tl,⟨[],tl,rfl,ah⟩,hn,λr hr=>G r (h1.mem.1 (hs.mem.2 (ht r hr)))⟩,h.tmps,⟨h.sat.im,h.sat.ob,λk B hB=>?_⟩,⟨h.ext.I,h.ext.os,h.ext.tape,h.ext.output,h.ext.drawn,h.ext.size,h.ext.keep,h.ext.own⟩⟩;have:=h.sat.blk k B hB;cases B<;>exact this
def zkc{C:Ctx}{P:Program}{fn:Func}{rv:List ResultVar}{r:AV}{R:Ending->World->Prop}(v8:fn.results=rv.toArray){st stf:St}(x1:RetVs P stf rv r){tmps:Array Value}{cl:FuncId}{us:Array Value}{u u':FrameMode}
 (x0:C.df=[(.func cl,us, #[])])(hu:u≠.run)(w2:settle u'=.returning)(hok:zy P cl=true)
 (G:∀g a w,Rel C.bare st g a w->CallsDIn Fence.wide 0 P cl us u w λe um w'=>um=u'/\∃v g',e=.returned v/\Rel C.bare stf g' a w')
 (hR:∀g w v,Rel C.bare stf g {tmps:=tmps,defers:=[]} w->RV g.I g.ρ r v->R (.returned v) w){g:Gh}{w:World}{ds:List Deferred}(hr:Rel C st g {tmps:=tmps,defers:=ds} w):LeavesInM Fence.wide 0 P fn tmps R ds u w:=by
 obtain⟨D,hD,v5,v0⟩:=hr.defers;have k9:=hD;obtain⟨D1,D2,rfl,e⟩:=hD;simp only at e;subst e;refine zeW hu (λg1 w1 xT=>?_) D1 hr;rw[x0]at xT⊢;simp only[wW,kE,wY,xX]at xT⊢;have v4:Sh C (dfD (.func cl,us, #[])::D2.map mkD) D2:=⟨[],D2,rfl,by rw[x0];rfl⟩;have hb:=zoa xT rfl v4 (tl:=D2) (λr h=>h) (xC.1 v5).2.1;refine⟨hu,.inr ⟨λh=>absurd h ac,.func cl,us,cl,us,rfl,?_,λ_ _=>trivial,?_⟩⟩
 ·show(invoke (dfD (.func cl,us, #[])).target (dfD (.func cl,us, #[])).args).run P w1=_;simp only[dfD,invoke,zN hok];simp
 ·obtain⟨h1,h2⟩:=G g1 _ w1 hb;refine⟨h1,λc cs hc x2=>?_⟩;obtain⟨e,um,w',fr,⟨rfl,v,g',rfl,v3⟩,h3⟩:=h2 c cs hc x2;refine⟨.returned v,um,w',fr,?_,h3⟩;show LeavesInM Fence.wide 0 P fn tmps R (D2.map mkD) (settle um) w';rw[w2];have:=zeW (C:=C.bare) (P:=P) (fn:=fn) (R:=R) (st:=stf) (tmps:=tmps) (u:=.returning) ah (tl:=[]) (λg3 w3 v9=>?_) D2 (g:=g') (w:=w') (by rw[wQ];exact v3)
  ·rw[wQ]at this;exact this
  ·obtain⟨x,v2,v1⟩:=zhC v9 v8 x1;exact⟨x,v2,hR g3 w3 x v9 v1⟩
def EndF(g:Gh)(w:World)(r:AV):Ending->World->Prop:=λe w'=>∃v g',e=.returned v/\RV g'.I noNames r v/\Add none g w g' w'/\ImOB g' w'
def EndF.of{w3:World}{r:AV}(x0:r.nm=true)(hd:∀b n,g.O b≠some (d,n))(G:Rel (C0 n d ⟨noNames,g.I,g.O⟩ w) st g3 a w3)(hv:RV g3.I g3.ρ r v):EndF g w r (.returned v) w3:=by
 have x2:∀b,b<w.heap.size->¬(C0 n d ⟨noNames,g.I,g.O⟩ w).okb b:=λb hb hk=>by
  rcases hk with hk|⟨m,hk⟩
  ·simp at hk;omega
  ·exact hd b m hk
 have x1:∀b,¬(C0 n d ⟨noNames,g.I,g.O⟩ w).oth b:=λb⟨y,m,hy,_⟩=>by simp at hy
 refine⟨v,{ρ:=g.ρ,I:=g3.I,O:=g3.O},rfl,hv.forget x0,⟨G.ext.I,λ_ _=>rfl,λb xT=>?_,⟨G.ext.os,G.ext.tape,G.ext.output,G.ext.drawn,G.ext.size,λb xT=>?_⟩⟩,⟨G.sat.im,G.sat.ob⟩⟩
 ·exact(G.ext.keep b xT (x2 b xT) (x1 b)).2
 ·exact(G.ext.keep b xT (x2 b xT) (x1 b)).1
def zta(P:Program)(fn:Func)(d:Nat)(g:Gh)(w:World)(r:AV):Exit->Act->World->Prop:=λe a w'=>(∀b n,g.O b≠some (d,n))->bodyPostM Fence.wide 0 P fn (EndF g w r) e a w'
def zkD{as:List AV}{ts:List (Nat×AV)}{r:AV}(hc:zy P f=true)(hf:P.funcs[f]? =some fn)(hb:fn.body=some c)(hn:fn.ntmps=n)
 (x0:r.nm=true)(w2:zaE 0 as=ts)(xT:as.length<=n)(h:∀g w d,XW P (C0 n d ⟨noNames,g.I,g.O⟩ w) c ⟨ts,[]⟩ (zta P fn d g w r)):Fn P f as r:=by
 refine⟨hc,x0,λg w args x2 G=>(callsIn_wide (n:=0)).1 (callsIn_of_wp_marks hf hb trivial ?_)⟩;subst w2;obtain⟨d,hd,-⟩:=zcI g.O w.heap.size [] x2.2.1;have x1:=zeV (C:=C0 n d ⟨noNames,g.I,g.O⟩ w) (I:=g.I) (O:=g.O) (m:=fn.ntmps) rfl rfl hn xT x2 G;exact wpIn_mono (h g w d _ _ w x1) λe a w' hq=>hq hd
def zta.plain{r:AV}(x0:fn.results=rv.toArray)(w2:r.nm=true)(h:RetQ P (C0 n d ⟨noNames,g.I,g.O⟩ w) rv r e st):QW (C0 n d ⟨noNames,g.I,g.O⟩ w) (zta P fn d g w r) e st:=λg1 a w1 hr hd=>by
 obtain⟨he,st',xT,x2⟩:=h;obtain⟨g2,G⟩:=xT g1 a w1 hr
 have x1:LeavesInM Fence.wide 0 P fn a.tmps (EndF g w r) a.defers .returning w1:=by
  obtain⟨D,hD,v9,v8⟩:=G.defers;exact zbq x0 x2 rfl (λg3 w3 v v5 hv=>EndF.of w2 hd v5 hv) D hD.plain v9 v8 ⟨G.size,Dfs.nil _ _ _,G.tmps,G.sat,G.ext⟩
 rcases he with rfl|rfl<;>exact x1
def FnD(P:Program)(f:FuncId)(as:List AV)(hs:List (Nat×Blk))(kp:List Nat)(u u':FrameMode)(hs':List (Nat×Blk)):Prop:=
 zy P f=true/\∀(d:Nat)(ρ:Nat->Value)(I:Im)(O:Owns)(w:World)(args:List Value),Sat (C0 0 d ⟨ρ,I,O⟩ w) hs ⟨ρ,I,O⟩ w->RVL I ρ as args→
  CallsDIn Fence.wide 0 P f args.toArray u w λe um w'=>um=u'/\∃v ρ' I' O',e=.returned v/\Sat (C0 0 d ⟨ρ,I,O⟩ w) hs' ⟨ρ',I',O'⟩ w'/\RV I' ρ' (.tup []) v/\Ext (C0 0 d ⟨ρ,I,O⟩ w) ⟨ρ',I',O'⟩ w'/\∀n∈kp,ρ' n=ρ n
def FnD.call{C:Ctx}{as:List AV}{hs G:List (Nat×Blk)}
 (μ:List (Nat×Nat))(h:FnD P f as hs kp u u' G)(hμ:biOk μ=true)(w2:as.all (AV.okN (keys hs))=true)(v9:zaq st μ (keys hs) hs)(x2:∀p∈G,(fwd μ p.1).isSome=true/\p.2.okNB (keys G)=true)
 (x1:∀p∈μ,kp.any (·.beq p.1)=true\/(hs.any (·.1.beq p.1)=true/\G.any (·.1.beq p.1)=false)\/(hs.any (·.1.beq p.1)=false/\st.fr p.2=true))(v8:∀n∈kp,hs.any (·.1.beq n)=true)(hr:Rel C st g a w)(x0:RVL g.I g.ρ (as.map (AV.ren μ)) vals):
 CallsDIn Fence.wide 0 P f vals.toArray u w λe um w'=>um=u'/\∃v g',e=.returned v/\Rel C (za5 st μ hs G none (.tup [])) g' a w':=by
 have:=zn9 (T:=λA w R=>CallsDIn Fence.wide 0 P f A u w λe um w'=>um=u'/\R e w') (E:=λe v=>e=.returned v) (dst:=none)
  (λ{A w R R'}h1 h2=>⟨h1.1,λc cs hc xT=>let⟨e,um,w',fr,⟨q1,q2⟩,q3⟩:=h1.2 c cs hc xT;⟨e,um,w',fr,⟨q1,h2 e w' q2⟩,q3⟩⟩) μ h.2 hμ w2 rfl v9 x2 x1 v8 rfl hr x0
 exact this
def zda{P:Program}{fn:Func}{n d:Nat}{g:Gh}{w:World}{r:AV}{rv:List ResultVar}{e:Exit}{st st':St}{cl:FuncId}{us:Array Value}{as xs:List AV}{hs G:List (Nat×Blk)}{kp:List Nat}{u u':FrameMode}{kD:Nat}(μ:List (Nat×Nat))(h:FnD P cl as hs kp u u' G)
 (he:(e=.ret/\u=.returning)\/(e=.normal/\u=.returning)\/∃ch,e=.panic ch/\u=.panicking ch)(v8:fn.results=rv.toArray)(v5:r.nm=true)(hi:Imp {C0 n d ⟨noNames,g.I,g.O⟩ w with df:=[(.func cl,us, #[])]} st st')(hD:lk st'.h kD=some (.hold us.toList xs))(v4:LeL xs (as.map (AV.ren μ)))
 (x2:RetVs P (za5 st' μ hs G none (.tup [])) rv r)(x1:settle u'=.returning)
 (hμ:biOk μ=true)(v3:as.all (AV.okN (keys hs))=true)(v2:zaq st' μ (keys hs) hs)(x0:(G.all λp=>(fwd μ p.1).isSome&&p.2.okNB (keys G))=true)
 (w2:(μ.all λp=>kp.any (·.beq p.1)||(hs.any (·.1.beq p.1)&&!(G.any (·.1.beq p.1)))||(!(hs.any (·.1.beq p.1))&&st'.fr p.2))=true)(v1:(kp.all λn=>hs.any (·.1.beq n))=true):
 QW {C0 n d ⟨noNames,g.I,g.O⟩ w with df:=[(.func cl,us, #[])]} (zta P fn d g w r) e st:=λg1 a w1 hr hd=>by
 obtain⟨g2,v0⟩:=hi g1 a w1 hr
 have v9:LeavesInM Fence.wide 0 P fn a.tmps (EndF g w r) a.defers u w1:=by
  refine zkc (C:={C0 n d ⟨noNames,g.I,g.O⟩ w with df:=[(.func cl,us, #[])]}) v8 x2 rfl (by rcases he with⟨_,rfl⟩|⟨_,rfl⟩|⟨ch,_,rfl⟩<;>simp) x1 h.1 (λg3 a3 w3 xT=>?_) (λg3 w3 v xT hv=>EndF.of v5 hd xT hv) v0;have hh:=xT.sat.blk kD _ hD
  have:=h.call μ hμ v3 v2 (λp hp=>by have:=jF.1 x0 p hp;simpa using this) (λp hp=>by
   have:=jF.1 w2 p hp;simp only[wL,jE,wP]at this;rcases this with(h1|h1)|h1
   ·exact .inl h1
   ·exact .inr (.inl h1)
   ·exact .inr (.inr h1)) (λn hn=>jF.1 v1 n hn) xT (v4.rvl (vs:=us.toList) hh)
  exact this
 rcases he with⟨rfl,rfl⟩|⟨rfl,rfl⟩|⟨ch,rfl,rfl⟩<;>exact v9
def zkE{C:Ctx}{P:Program}{st:St}{tmps:Array Value}:∀(D:List Nat){g:Gh}{w:World}(fr:Frame)(cs:List Frame),fr.mode≠.run->fr.defers=D.map mkD->Rel C st g {tmps:=tmps,defers:=D.map mkD} w→
 ∃w',Rel C st g {tmps:=tmps,defers:=[]} w'/\StepsIn (Machine.fenced P Fence.wide) P (lone fr cs w) (lone {fr with defers:=[]} cs w')
 |[],g,w,fr,cs,hm,G,hr=>⟨w,hr,by
  have:{fr with defers:=[]}=fr:=by
   have e:fr.defers=[]:=G;rw[←e]
  rw[this];exact StepsIn.refl _⟩
 |x::D,g,w,fr,cs,hm,G,hr=>by
  obtain⟨w1,h1,h2⟩:=zhE (P:=P) (x:=x) (ds:=D.map mkD) hr;obtain⟨w',h3,h4⟩:=zkE D {fr with defers:=[]++D.map mkD} cs hm rfl h2;refine⟨w',h3,StepsIn.trans (.one ?_ (step_collected (cs:=cs) hm (d:=mkD x) (ds:=D.map mkD) G rfl h1)) h4⟩;exact fenced_out (n:=0) trivial (by simp[Fence.room,Fence.wide]) hm G (λg hg=>by simp[mkD,Target.leads]at hg)
def zpJ(C:Ctx)(c0:Frame)(cs:List Frame)(Q:FrameMode->Exit->St->Prop):Exit->Act->List Frame->World->Prop:=λe a cs' w=>∃um st g,cs'={c0 with mode:=um}::cs/\Rel C st g a w/\Q um e st
def XS(P:Program)(C:Ctx)(c:Code)(u:FrameMode)(st:St)(Q:FrameMode->Exit->St->Prop):Prop:=∀g a w,Rel C st g a w->∀(c0:Frame)(cs:List Frame),c0.mode=u->c.wpSIn Fence.wide 0 P (zpJ C c0 cs Q) a (c0::cs) w
section
variable{P:Program}{C:Ctx}{st:St}{Q:FrameMode->Exit->St->Prop}{u:FrameMode}
variable{F:Fence}{a:Act}{c:Code}{cs:List Frame}{n:Nat}{w:World}
def zjF{Q Q':Exit->Act->List Frame->World->Prop}(h:c.wpSIn F n P Q a cs w)(G:∀e a cs w,Q e a cs w->Q' e a cs w):c.wpSIn F n P Q' a cs w:=
 λb k h1 h2 h3 h4=>let⟨e,a',cs',w',l,q,r⟩:=h b k h1 h2 h3 h4;⟨e,a',cs',w',l,G _ _ _ _ q,r⟩
def XS.of(h:X P C c st (Q u))(G:C.rd=none:=by rfl):XS P C c u st Q:=λg a w hr c0 cs hu=>
 wpSIn_of_wpIn rfl (by
  have hF:C.F=Fence.wide:=by unfold Ctx.F;rw[G]
  have:=h g a w hr;rw[hF]at this;exact wpIn_mono this λe a w⟨st,g,hr,q⟩=>⟨u,st,g,by rw[←hu],hr,q⟩)
def XS.seq{x y:Code}(h:XS P C x u st (λum e st=>match e with|.normal=>XS P C y um st Q|e=>Q um e st)):XS P C (.seq x y) u st Q:=λg a w hr c0 cs hu=>
 wpSIn_seq (zjF (h g a w hr c0 cs hu) λe a cs' w⟨um,st,g,G,hr,q⟩=>by
  cases e
  case normal=>
   subst G;have:=q g a w hr {c0 with mode:=um} cs rfl;exact zjF this λe a cs' w h=>h
  all_goals exact⟨um,st,g,G,hr,q⟩)
def XS.recover{id t t2:Nat}{ts:Array TypeId}{ty1 ty2:TypeId}{p1 p2:String}{af1 af2:Array Edge}{v:Value}{um:FrameMode}(ht:t.blt C.n=true)(w2:t2.blt C.n=true)
 (hv:(u=.returning/\um=.returning/\v=.nilIface)\/∃older,u=.panicking ({v:=v,recovered:=false}::older)/\um=.panicking ({v:=v,recovered:=true}::older))
 (h:Q um .normal ⟨(t2,.val v)::(t,.val v)::st.t,st.h⟩):
 XS P C (.region id #[{dst:=some t,op:=.call {callee:=.builtin .recover,args:= #[],argTypes:=ts},type:=ty1,pos:=p1,after:=af1,guard:=none},{dst:=some t2,op:=.assign (.tmp t),type:=ty2,pos:=p2,after:=af2,guard:=none}] false) u st Q:=λg a w hr c0 cs hu=>by
 refine wpSIn_region ?_;have x1:t<a.tmps.size:=by rw[hr.size];simpa using ht
 have xT:∀{a:Act}{st:St}(d:Nat),Rel C st g a w->d<a.tmps.size->Rel C ⟨(d,.val v)::st.t,st.h⟩ g (a.put (some d) v) w:=λ{a st}d hr hd=>by
  refine⟨by simp[Act.put,hr.size],hr.defers,λt' x G=>?_,hr.sat,hr.ext⟩;show RV g.I g.ρ x ((a.put (some d) v).tmps.getD t' undef);rw[zaS hd];simp only[ym]at G;by_cases e:d=t'
  ·subst e;simp at G;subst G;rw[j7 rfl];exact .val v
  ·rw[j8 e];have:d.beq t'=false:=beqF.2 e;simp[this]at G;exact hr.tmps t' x G
 have x0:=xT t hr x1;have v9:=xT t2 x0 (by rw[x0.size];simpa using w2)
 have v8:(a.put (some t) v).eval (.tmp t)=v:=by
  show(a.put (some t) v).tmps.getD t undef=_;rw[zaS x1,j7 rfl]
 have e1:(execOp a.eval {dst:=some t,op:=.call {callee:=.builtin .recover,args:= #[],argTypes:=ts},type:=ty1,pos:=p1,after:=af1,guard:=none}).run P w=.ok .recover w:=by
  simp[execOp,resolve,invoke,builtin]
 have e2:(execOp (a.put (some t) v).eval {dst:=some t2,op:=.assign (.tmp t),type:=ty2,pos:=p2,after:=af2,guard:=none}).run P w=.ok (.value v) w:=by
  simp only[execOp,v8];rfl
 have x2:∀cs',cs'={c0 with mode:=um}::cs->zpJ C c0 cs Q .normal ((a.put (some t) v).put (some t2) v) cs' w:=λcs' e=>⟨um,_,g,e,v9,h⟩
 rcases hv with⟨rfl,rfl,rfl⟩|⟨older,rfl,rfl⟩
 ·have e3:recoverD (c0::cs)=none:=by simp[recoverD,hu]
  simp only[Array.size,w5,uM,List.range,List.range.loop,wpOpsSIn,xA,List.getElem?_cons_zero,wJ,Region.wanted,if_true,e1,e2,e3];refine⟨λ_ _=>trivial,λ_ _=>trivial,x2 _ (by rw[←hu])⟩
 ·have e3:recoverD (c0::cs)=some (v,{c0 with mode:=.panicking ({v:=v,recovered:=true}::older)}::cs):=by simp[recoverD,hu]
  simp only[Array.size,w5,uM,List.range,List.range.loop,wpOpsSIn,xA,List.getElem?_cons_zero,wJ,Region.wanted,if_true,e1,e2,e3];exact⟨λ_ _=>trivial,λ_ _=>trivial,x2 _ rfl⟩
end
def zDC(C:Ctx)(u':FrameMode)(vs:List Value)(cs:List AV)(hs':List (Nat×Blk))(um:FrameMode)(e:Exit)(st:St):Prop:=
 um=u'/\(e=.normal\/e=.ret)/\∃ts ex,Imp C st ⟨ts,(kN,.hold vs cs)::(hs'++ex)⟩
def FnD.intro{az:List AV}{ts:List (Nat×AV)}{hs xT:List (Nat×Blk)}{cs:List AV}(hc:zy P f=true)(hf:P.funcs[f]? =some fn)(hb:fn.body=some c)(hn:fn.ntmps=n)(k7:fn.results= #[])(j2:u'≠.run)
 (k6:zaE 0 az=ts)(j3:az.length<=n)(v3:(xT.all λp=>!(p.1.beq kN))=true)(k5:kp.mapM (hdr hs)=some cs)(v2:kp.mapM (hdr xT)=some cs)
 (h:∀g w d vs,XS P (C0 n d g w) c u ⟨ts,(kN,.hold vs cs)::hs⟩ (zDC (C0 n d g w) u' vs cs xT)):FnD P f az hs kp u u' xT:=by
 refine⟨hc,λd ρ I O w args x2 x1=>?_⟩;subst k6;have k4:args.length=az.length:=x1.1;let C:=C0 n d ⟨ρ,I,O⟩ w
 have v1:Rel C ⟨zaE 0 az,(kN,.hold (kp.map ρ) cs)::hs⟩ ⟨ρ,I,O⟩ {tmps:=args.toArray++Array.replicate (fn.ntmps-args.toArray.size) undef,defers:=[]} w:=by
  refine⟨by simp[hn,C];omega,Dfs.nil _ _ _,λt x hx=>?_,⟨x2.im,x2.ob,λk B hB=>?_⟩,⟨Im.le_refl _,rfl,rfl,rfl,jG _,jG _,λ_ _ _ _=>⟨rfl,rfl⟩,λb y n _ hy=>⟨n,hy⟩⟩⟩
  ·obtain⟨_,v4⟩:=zdt (I:=I) (ρ:=ρ) az 0 t x hx;simp only[vY]at v4;have ht:t<args.length:=by rw[k4];exact(j5.1 v4).1
   have e:(args.toArray++Array.replicate (fn.ntmps-args.toArray.size) undef).getD t undef=args[t]:=by
    simp[jI,vN,ht]
   rw[e];exact x1.2 t x _ v4 (jC ht)
  ·simp only[ym]at hB;cases k3:kN.beq k<;>simp[k3]at hB
   ·exact(x2.blk k B hB).ctx
   ·subst hB;exact ziu (g:=⟨ρ,I,O⟩) x2 k5
 refine⟨trivial,λc₀ cs0 hu x0=>?_⟩;let b:Frame:={(default:Frame)with fn:=f,kind:=.deferred,roundOf:=none}
 have v9:Frame.enter P f args.toArray .deferred=
  b.atR {tmps:=args.toArray++Array.replicate (fn.ntmps-args.toArray.size) undef,defers:=[]} [.code c]:=by
  simp[Frame.enter,Frame.atR,hf,hb,b]
 obtain⟨e,a',cs',w',hl,hq,w2⟩:=h _ w d _ _ _ w v1 c₀ cs0 hu b [] rfl rfl trivial x0;rw[←v9]at w2;obtain⟨um,st,g1,rfl,k2,rfl,he,ts',ex',v0⟩:=hq;obtain⟨g2,k9⟩:=v0 g1 a' w' k2
 have v5:∀fr:Frame,fr.mode=.returning->fr.defers=a'.defers->fr.tmps=a'.tmps->fr.kind=.deferred->fr.fn=f->∃e u'' w'' fr',(u''=um/\∃v ρ' I' O',e=.returned v/\Sat (C0 0 d ⟨ρ,I,O⟩ w) xT ⟨ρ',I',O'⟩ w''/\RV I' ρ' (.tup []) v/\Ext (C0 0 d ⟨ρ,I,O⟩ w) ⟨ρ',I',O'⟩ w''/\∀n∈kp,ρ' n=ρ n)∧
  ComesIn (Machine.fenced P Fence.wide) P (lone fr ({c₀ with mode:=um}::cs0) w') (lone fr' ({c₀ with mode:=u''}::cs0) w'') e/\fr'.kind=.deferred/\fr'.fn=f/\fr'.going P w'' e:=λfr h1 h2 h3 h4 h5=>by
  obtain⟨D,hD,j1,j0⟩:=k9.defers;have v8:=hD.plain (C:=C) rfl;have v8:a'.defers=D.map mkD:=by rw[v8];simp[C]
  obtain⟨w'',G,j4⟩:=zkE (P:=P) (C:=C) (st:=⟨ts',(kN,.hold (kp.map ρ) cs)::(xT++ex')⟩) (tmps:=a'.tmps) D (g:=g2) (w:=w') fr ({c₀ with mode:=um}::cs0) (by rw[h1];simp) (h2.trans v8) (by rw[←v8];exact k9)
  have k8:Sat (C0 0 d ⟨ρ,I,O⟩ w) xT g2 w'':=⟨G.sat.im,G.sat.ob,λk B hB=>by
   refine(G.sat.blk k B ?_).ctx
   have:kN.beq k=false:=by
    cases hb:kN.beq k
    ·rfl
    ·have:kN=k:=ao hb
     subst this;rw[zgL v3]at hB;simp at hB
   simp[ym,this,zco,hB]⟩
  have hh:=G.sat.blk kN (.hold (kp.map ρ) cs) (by simp[ym]);refine⟨.returned (.tuple #[]),um,w'',{fr with defers:=[]},⟨rfl,.tuple #[],g2.ρ,g2.I,g2.O,rfl,k8,RV.tup [] [] rfl (λj c v hc=>by simp at hc),⟨G.ext.I,G.ext.os,G.ext.tape,G.ext.output,G.ext.drawn,G.ext.size,G.ext.keep,G.ext.own⟩,zgK (ρ:=ρ) k8 v2 hh⟩,j4,h4,h5,?_⟩;refine⟨h1,rfl,fn,by rw[h5];exact hf,?_⟩;unfold results;rw[k7];simp
 rcases he with rfl|rfl
 ·obtain⟨e,u'',w'',fr',h1,h2,h3⟩:=v5 {b.atR a' []with mode:=.returning} rfl rfl rfl rfl rfl;exact⟨e,u'',w'',fr',h1,ComesIn.of_steps (StepsIn.trans w2 (.one (fenced_calm (fr:=b.atR a' []) (n:=0) trivial x0 rfl) (stepR_end rfl))) h2,h3⟩
 ·obtain⟨todo,hs⟩:=w2.1 rfl;obtain⟨e,u'',w'',fr',h1,h2,h3⟩:=v5 {b.atR a' todo with mode:=.returning} rfl rfl rfl rfl rfl;exact⟨e,u'',w'',fr',h1,ComesIn.of_steps hs h2,h3⟩
end Go.Rse
