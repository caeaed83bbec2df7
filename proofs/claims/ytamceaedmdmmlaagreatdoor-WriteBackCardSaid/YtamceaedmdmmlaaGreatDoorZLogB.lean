/-
  The logic: parts Rse13, Rse14, Rse15, Rse16, Rse17, Rse18, Rse19, Rse20.
  A scope that is gone through without a goto.
  The logic: parts Rse24, Rse25, Rse26, Rse27.
  A guarded operation whose guard is known to hold.
  The logic: drawn regions of which some operations lay memory that stays; parts of lists.
  Rules: a middle part of an immutable list; the greater and the smaller of two numbers.
  Rules: values of interface types, panics, calls that panic, a deferred closure that recovers.
-/
import Derived.Test.YtamceaedmdmmlaaGreatDoorZLogA
import Derived.RangeFuncNested
import Derived.Laws.Cover3
import Derived.Scope
import Derived.Laws.OwnMore
import Derived.RecoverIn
set_option linter.all false
namespace Go.Rse
open Go Go.RowKit
structure Chg(ds:List Nat)(I:Im)(O:Owns)(w:World)(I':Im)(O':Owns)(w':World):Prop where
 I:Im.le I I'
 os:w'.os=w.os
 tape:w'.tape=w.tape
 output:w'.output=w.output
 drawn:w.drawn<=w'.drawn
 size:w.heap.size<=w'.heap.size
 keep:∀b,b<w.heap.size->(¬∃y n,y∈ds/\O b=some (y,n))->w'.heap[b]? =w.heap[b]? /\O' b=O b
 own:∀b y n,b<w.heap.size->O' b=some (y,n)->∃n',O b=some (y,n')
def yH(P:Program)(l:Nat)(ds:List Nat)(Y:Nat->Bool->Im->Owns->World->Prop)(xs:List (List AV)):Prop:=
 ∀(j:Nat)(as:List AV),xs[j]? =some as->∀(I:Im)(O:Owns)(w:World)(args:List Value),Y j true I O w->ImO I O w->RVL I noNames as args→
  ∃fn tmps assign body w1,(Instr.yield l args.toArray).run P w=.ok (.round l fn tmps assign body) w1∧
   RoundIn Fence.wide 0 P l fn tmps assign body w1 λe w'=>∃b I' O',e=.returned (.bool b)/\Y (bif b then j+1 else j) b I' O' w'/\ImO I' O' w'/\Chg ds I O w I' O' w'
def It(P:Program)(f:FuncId)(caps:List AV)(xs:List (List AV)):Prop:=
 zan P f=true/\∀(ds:List Nat)(l:Nat)(Y:Nat->Bool->Im->Owns->World->Prop)(I:Im)(O:Owns)(w:World)(us:List Value),ImO I O w->RVL I noNames caps us→
  YCl Y ds w.heap.size->Y 0 true I O w->yH P l ds Y xs→
  Calls P f (Value.func (.yield l) #[] #[]::us).toArray w λe w'=>∃v j on I' O',e=.returned v/\(on=true->j=xs.length)/\Y j on I' O' w'/\ImO I' O' w'/\Chg ds I O w I' O' w'
abbrev yN:Nat:=1000000
def yP.chg{C:Ctx}{g:Gh}{w:World}{I':Im}{O':Owns}{w':World}{k:Nat}{B:Blk}(h:yP C g w k B)(hy:∀j on,B≠.yld j on)(hd:C.d∉C.ds)(T:Chg C.ds g.I g.O w I' O' w'):yP C ⟨g.ρ,I',O'⟩ w' k B:=by
 have hk:∀b n,b<w.heap.size->g.O b=some (C.d,n)->w'.heap[b]? =w.heap[b]? /\O' b=g.O b:=λb n J hO=>T.keep b J (λ⟨y,m,hy,hm⟩=>by
  simp_all)
 cases B with
 |box cs E=>
  obtain⟨b,vs,h1,V,N,U,G,H⟩:=h;obtain⟨e1,e2⟩:=hk b k (zg U) V;exact⟨b,vs,h1,e2.trans V,N,e1.trans U,G,λj c v Z hv=>(H j c v Z hv).mono T.I⟩
 |row enc l E s=>
  obtain⟨xs,h1,V,N,U⟩:=h;refine⟨xs,?_,V,λi x j c v hx Z hv=>(N i x j c v hx Z hv).mono T.I,λb J=>?_⟩
  ·obtain⟨p1,p2⟩:=h1;refine⟨p1,?_⟩;rcases p2 with p2|⟨b,cap,cur,hv,J,hh,r⟩
   ·exact .inl p2
   ·have:=U b (by rw[hv];rfl);exact .inr ⟨b,cap,cur,hv,J,(hk b k (zg hh) this.1).1.trans hh,r⟩
  grind[zb5]
 |hold vs cs=>exact⟨h.1,λj c v Z hv=>(h.2 j c v Z hv).mono T.I⟩
 |obj b o=>
  grind[yP]
 |yld j on=>simp_all
 |mpb kenc venc l=>
  obtain⟨b,es,ck,h1,V,N,U,G,H⟩:=h;obtain⟨e1,e2⟩:=hk b k (zg U) V;exact⟨b,es,ck,h1,e2.trans V,N,e1.trans U,G,λi e p he hp=>⟨(H i e p he hp).1.mono T.I,(H i e p he hp).2.mono T.I⟩⟩
 |dead=>trivial
def Dfs.chg{C:Ctx}{g:Gh}{w:World}{I':Im}{O':Owns}{w':World}{ds:List Deferred}(h:Dfs C g ds w)(Z:Chg C.ds g.I g.O w I' O' w'):Dfs C ⟨g.ρ,I',O'⟩ ds w':=by
 obtain⟨D,h1,hn,V⟩:=h;refine⟨D,h1,hn,λr hr=>?_⟩;obtain⟨U,T,N⟩:=V r hr;obtain⟨e1,e2⟩:=Z.keep r (zg U) (λ⟨y,n,_,hm⟩=>by rw[T]at hm;simp at hm);simp_all
def Ext.chg{C:Ctx}{g:Gh}{w:World}{I':Im}{O':Owns}{w':World}(h:Ext C g w)(Z:Chg C.ds g.I g.O w I' O' w'):Ext C ⟨g.ρ,I',O'⟩ w':=
 ⟨Im.le_trans h.I Z.I,Z.os.trans h.os,Z.tape.trans h.tape,Z.output.trans h.output,jT h.drawn Z.drawn,jT h.size Z.size,
  λb V hn ho=>by
   obtain⟨h1,N⟩:=h.keep b V hn ho;obtain⟨e1,e2⟩:=Z.keep b (w6 V h.size) (λ⟨y,n,U,hm⟩=>ho ⟨y,n,U,by rw[←N];exact hm⟩);simp_all,
  λb y n V U=>by
   obtain⟨n',T⟩:=Z.own b y n (w6 V h.size) U;exact h.own b y n' V T⟩
def yOk:List (Nat×Blk)->Bool
 |[]=>true
 |(k,.yld _ _)::r=>k.beq yN&&yOk r
 |(k,_)::r=>!(k.beq yN)&&yOk r
def zsw:∀{h:List (Nat×Blk)},yOk h=true->∀{k:Nat}{B:Blk},k≠yN->lk h k=some B->∀j on,B≠.yld j on
 |[],_,_,_,_,e,_,_=>by simp[lk]at e
 |(k',B')::r,h,k,B,hk,e,j,on=>by
  simp only[yq]at e;have hr:yOk r=true:=by cases B'<;>simp[yOk]at h<;>exact h.2
  cases Z:k'.beq k<;>simp[Z]at e
  ·exact zsw hr hk e j on
  ·have:k'=k:=by simpa using Z
   subst this;subst e;cases B'<;>first|(simp;done)|simp_all[yOk]
def zm5{C:Ctx}{st:St}{g:Gh}{a:Act}{w:World}{args:Array Operand}:(args.toList.map a.eval).toArray=args.map a.eval:=by grind
def zm6{P:Program}{C:Ctx}{st:St}{ty:TypeId}{l:Nat}{xs:List (List AV)}(hY:yH P l C.ds C.Y xs){fop:Operand}{args:Array Operand}{ts:Array TypeId}{j:Nat}{ys as:List AV}(hf:ev st fop=some (.yv l))(hx:evs st args.toList=some ys)
 (hn:AV.nm.nmL ys=true)(E:LeL ys as)(hj:lk st.h yN=some (.yld j true))(xT:yOk st.h=true)(x4:xs[j]? =some as){dst:Option Tmp}(hd:dOk C.n dst=true){g:Gh}{a:Act}{w:World}(pos:String)(af:Array Edge)(gd:Option (Nat×Bool))(hr:Rel C st g a w){K:Act->World->Prop}
 (hK:∀(b:Bool)a' w' g',Rel C ⟨consT dst (.bool b) st.t,(yN,.yld (bif b then j+1 else j) b)::st.h⟩ g' a' w'->K a' w'):
 wp1 P {dst:=dst,op:=.call {callee:=.value fop,args:=args,argTypes:=ts},type:=ty,pos:=pos,after:=af,guard:=gd} a w K:=by
 have e:a.eval fop=.func (.yield l) #[] #[]:=by
  have:=yA hr hf;generalize a.eval fop=v at this;cases this;rfl
 have T:RVL g.I noNames as (args.toList.map a.eval):=E.rvl ((zeQ hr hx).forget hn);obtain⟨J,x3,x2,x1,x0⟩:=hr.sat.blk yN _ hj;obtain⟨fn,tmps,assign,body,w1,H,Z⟩:=hY j as x4 g.I g.O w _ x0 ⟨hr.sat.im,hr.sat.ob⟩ T;rw[zm5 (C:=C) (st:=st) (g:=g) (w:=w)]at H
 have e2:(execOp a.eval {dst:=dst,op:=.call {callee:=.value fop,args:=args,argTypes:=ts},type:=ty,pos:=pos,after:=af,guard:=gd}).run P w=.ok (.round l fn tmps assign body) w1:=by
  simp_all[execOp,resolve,Deferred.ofValue,invoke]
 unfold wp1;rw[e2];refine RoundIn.mono Z ?_
 rintro e w'⟨b,I',O',rfl,w9,V,N⟩
 refine⟨.bool b,rfl,?_⟩
 have U:Sat C ((yN,.yld (bif b then j+1 else j) b)::st.h) ⟨g.ρ,I',O'⟩ w':=⟨V.1,V.2,λk B G=>by
  simp only[yq]at G;cases hb:yN.beq k<;>simp[hb]at G
  ·exact(hr.sat.blk k B G).chg (zsw xT (λe=>by subst e;simp at hb) G) J N
  ·have:yN=k:=by simpa using hb
   subst G;refine⟨J,x3,x2,λb' n w2=>?_,w9⟩;rcases wD b' w.heap.size with hl|hl
   ·obtain⟨n',v9⟩:=N.own b' C.d n hl w2;exact x1 b' n' v9
   ·have:=hr.ext.size;omega⟩
 have v8:∀t x,lk st.t t=some x->RV I' g.ρ x (a.tmps.getD t undef):=λt x hx=>(hr.tmps t x hx).mono N.I
 refine hK b (a.put dst (.bool b)) w' ⟨g.ρ,I',O'⟩ ?_;cases dst with
 |none=>exact⟨hr.size,hr.defers.chg N,v8,U,hr.ext.chg N⟩
 |some d=>
  refine⟨by simp[Act.put,hr.size],hr.defers.chg N,λt x hx=>?_,U,hr.ext.chg N⟩;rw[zaT (by rw[hr.size];simpa[dOk]using hd)];simp only[consT,yq]at hx;by_cases e:d=t
  ·subst e;simp at hx;rw[j6 rfl,←hx];exact .bool b
  grind[beqF]
def Ex.yield{P:Program}{C:Ctx}{ops:Array Oper}{st:St}{Q:Exit->St->Prop}{rest:List Oper}{ty:TypeId}{pos:String}{af:Array Edge}{l:Nat}{xs:List (List AV)}(T:yH P l C.ds C.Y xs){fop:Operand}{args:Array Operand}{ts:Array TypeId}{j:Nat}{ys as:List AV}{dst:Option Tmp}
 (hf:ev st fop=some (.yv l))(hx:evs st args.toList=some ys)(hn:AV.nm.nmL ys=true)(Z:LeL ys as)(N:lk st.h yN=some (.yld j true))(V:yOk st.h=true)(U:xs[j]? =some as)(J:dOk C.n dst=true)
 (h:∀b:Bool,Ex P C ops rest ⟨consT dst (.bool b) st.t,(yN,.yld (bif b then j+1 else j) b)::st.h⟩ Q):
 Ex P C ops ({dst:=dst,op:=.call {callee:=.value fop,args:=args,argTypes:=ts},type:=ty,pos:=pos,after:=af,guard:=none}::rest) st Q:=λg a w hr=>
 wpListIn_plain rfl λK H=>zaz<|zm6 T hf hx hn Z N V U J pos af none hr λb a' w' g' G=>H _ _ (h b g' a' w' G)
def zb6{P:Program}{C:Ctx}{ops:Array Oper}{st:St}{Q:Exit->St->Prop}{rest:List Oper}{ty:TypeId}{pos:String}{af:Array Edge}{l:Nat}{xs:List (List AV)}(J:yH P l C.ds C.Y xs){fop:Operand}{args:Array Operand}{ts:Array TypeId}{j:Nat}{d i t:Nat}{want c:Bool}
 (hi:(ops[i]?).bind (·.dst)=some t)(H:lk st.t t=some (.bool c))(T:d.blt C.n=true)
 (V:(c==want)=true->∃ys as,ev st fop=some (.yv l)/\evs st args.toList=some ys/\AV.nm.nmL ys=true/\LeL ys as/\lk st.h yN=some (.yld j true)/\yOk st.h=true/\xs[j]? =some as∧
  ∀b:Bool,Ex P C ops rest ⟨(d,.bool b)::st.t,(yN,.yld (bif b then j+1 else j) b)::st.h⟩ Q)
 (U:(c==want)=false->Ex P C ops rest ⟨(d,.any)::st.t,st.h⟩ Q):
 Ex P C ops ({dst:=some d,op:=.call {callee:=.value fop,args:=args,argTypes:=ts},type:=ty,pos:=pos,after:=af,guard:=some (i,want)}::rest) st Q:=λg a w hr=>by
 have hy:yielded ops a.tmps i=some c:=by
  have:=zr (hr.tmps t _ H)
  have e:a.tmps[t]? =some (.bool c):=by
   simp only[jM]at this
   grind[undef]
  simp[yielded,hi,e]
 unfold wpListIn;cases N:(c==want)with
 |true=>
  have Z:Region.wanted {dst:=some d,op:=.call {callee:=.value fop,args:=args,argTypes:=ts},type:=ty,pos:=pos,after:=af,guard:=some (i,want)} (yielded ops a.tmps)=true:=by
   simp_all[Region.wanted]
  rw[j6 Z];obtain⟨ys,as,h1,G,E,h4,h5,h6,h7,h8⟩:=V N;exact zaz (zm6 J h1 G E h4 h5 h6 h7 (dst:=some d) (by simpa[dOk]using T) pos af _ hr λb a' w' g' h'=>h8 b g' a' w' h')
 |false=>
  have Z:Region.wanted {dst:=some d,op:=.call {callee:=.value fop,args:=args,argTypes:=ts},type:=ty,pos:=pos,after:=af,guard:=some (i,want)} (yielded ops a.tmps)=false:=by
   simp_all[Region.wanted]
  rw[j7 (by rw[Z];simp)];exact⟨λf _=>C.F_fn f,U N g _ w (hr.addSt (d:=some d) (nb:=none) (Add.refl _ g w) (by simpa[dOk]using T) rfl (.any _) hr.sat.im hr.sat.ob (λ_ _ h=>by cases h))⟩
def ItQ(n:Nat)(e:Exit)(st:St):Prop:=(e=.normal\/e=.ret)/\∃j on,lk st.h yN=some (.yld j on)/\(on=true->j=n)
abbrev C1(n d:Nat)(ds:List Nat)(Y:Nat->Bool->Im->Owns->World->Prop)(g:Gh)(w:World):Ctx:=⟨none,n,d,ds,w.heap.size,Y,g,w,[]⟩
def It.intro{P:Program}{f:FuncId}{fn:Func}{c:Code}{n:Nat}{caps:List AV}{ts:Nat->List (Nat×AV)}{xs:List (List AV)}(J:zan P f=true)(hf:P.funcs[f]? =some fn)(H:fn.body=some c)(hn:fn.ntmps=n)(x1:fn.results= #[])
 (x0:∀l,zbx 0 (.yv l::caps)=ts l)(G:caps.length+1<=n)(h:∀g w d ds Y l,yH P l ds Y xs->X P (C1 n d ds Y g w) c ⟨ts l,[(yN,.yld 0 true)]⟩ (ItQ xs.length)):It P f caps xs:=by
 refine⟨J,λds l Y I O w us E xT w9 hY T=>(callsIn_wide (n:=0)).1 (callsIn_of_wp_marks hf H trivial ?_)⟩;obtain⟨d,hd,w2⟩:=zc5 O w.heap.size ds E.2.1;let C:=C1 n d ds Y ⟨noNames,I,O⟩ w
 have N:RVL I noNames (.yv l::caps) (Value.func (.yield l) #[] #[]::us):=⟨by simp[xT.1],λj c v J hv=>by
  cases j with
  |zero=>simp at J hv;subst J;subst hv;exact .yv l
  |succ j=>exact xT.2 j c v (by simpa using J) (by simpa using hv)⟩
 have U:=zfm (C:=C) (I:=I) (O:=O) (m:=fn.ntmps) rfl rfl hn (by simpa using G) E N;rw[x0 l]at U;have x4:=U.withBlk (k:=yN) (B:=.yld 0 true) ⟨w2,w9,jE _,λb m hm=>absurd hm (hd b m),hY⟩;refine wpIn_mono (h _ w d ds Y l T _ _ w x4) ?_
 rintro e a w'⟨st,g1,V,he,j,on,hj,v9⟩
 obtain⟨v8,v5,v4,v3,x3⟩:=V.sat.blk yN _ hj
 have x2:LeavesInM Fence.wide 0 P fn a.tmps (λe w'=>∃v j on I' O',e=.returned v/\(on=true->j=xs.length)/\Y j on I' O' w'/\ImO I' O' w'/\Chg ds I O w I' O' w') a.defers .returning w':=by
  obtain⟨D,hD,v2,v1⟩:=V.defers;refine zaW (C:=C) (r:=.tup []) (rv:=[]) (by simpa using x1) (.many (by simp) .nil) rfl (λg3 w3 v Z hv=>?_) D hD.plain v2 v1 ⟨V.size,Dfs.nil _ _ _,V.tmps,V.sat,V.ext⟩;obtain⟨v8,v5,v4,v3,x3⟩:=Z.sat.blk yN _ hj
  have v0:∀b,b<w.heap.size->¬C.okb b:=λb H hk=>by
   rcases hk with hk|⟨m,hk⟩;all_goals grind
  exact⟨v,j,on,g3.I,g3.O,rfl,v9,x3,⟨Z.sat.im,Z.sat.ob⟩,⟨Z.ext.I,Z.ext.os,Z.ext.tape,Z.ext.output,Z.ext.drawn,Z.ext.size,λb H u4=>Z.ext.keep b H (v0 b H) u4,Z.ext.own⟩⟩
 rcases he with rfl|rfl<;>exact x2
end Go.Rse
namespace Go.Rse
open Go Go.RowKit
abbrev Ctx.rnd(C:Ctx)(l:Nat)(g:Gh)(w:World):Ctx:=⟨some l,C.n,C.d,C.ds,C.yB,C.Y,g,w,[]⟩
def Ext.trans{C:Ctx}{l:Nat}{g g':Gh}{w w':World}(h:Ext C g w)(Z:Ext (C.rnd l g w) g' w'):Ext C g' w':=
 ⟨Im.le_trans h.I Z.I,Z.os.trans h.os,Z.tape.trans h.tape,Z.output.trans h.output,jT h.drawn Z.drawn,jT h.size Z.size,λb V hn ho=>by
  obtain⟨h1,J⟩:=h.keep b V hn ho;have U:=w6 V h.size
  obtain⟨H,G⟩:=Z.keep b U (λhk=>by
   rcases hk with hk|⟨n,hk⟩
   ·exact absurd hk (kJ.2 U)
   ·exact hn (.inr ⟨n,by rw[←J];exact hk⟩)) (λ⟨y,n,T,hm⟩=>ho ⟨y,n,T,by rw[←J];exact hm⟩)
  simp_all,
  λb y n V T=>by
   obtain⟨n',N⟩:=Z.own b y n (w6 V h.size) T;exact h.own b y n' V N⟩
def yP.into{C:Ctx}{l:Nat}{g g0:Gh}{w w0:World}{k:Nat}{B:Blk}(h:yP C g w k B)(Z:∀b n,g.O b=some (C.d,n)->(C.rnd l g0 w0).okb b)(hs:C.yB<=C.w0.heap.size->C.yB<=w0.heap.size):yP (C.rnd l g0 w0) g w k B:=by
 cases B<;>grind[yP]
def yP.outof{C:Ctx}{l:Nat}{g g0:Gh}{w w0:World}{k:Nat}{B:Blk}(h:yP (C.rnd l g0 w0) g w k B)(Z:∀b n,g.O b=some (C.d,n)->C.okb b)(hs:C.yB<=w0.heap.size->C.yB<=C.w0.heap.size):yP C g w k B:=by
 cases B<;>grind[yP]
theorem Ext.okb{C:Ctx}{g:Gh}{w:World}(h:Ext C g w):∀b n,g.O b=some (C.d,n)->C.okb b:=λb n V=>by
 rcases wD b C.w0.heap.size with hl|hl
 ·obtain⟨n',Z⟩:=h.own b C.d n hl V;exact .inr ⟨n',Z⟩
 ·exact .inl hl
def zipT:List Nat->List AV->List (Nat×AV)
 |s::r,x::q=>(s,x)::zipT r q
 |_,_=>[]
def zpv:∀{sl:List Nat}{xs:List AV}{t:Nat}{x:AV},lk (zipT sl xs) t=some x->∃j:Nat,sl[j]? =some t/\xs[j]? =some x
 |[],_,_,_,h=>by simp[zipT,lk]at h
 |_::_,[],_,_,h=>by simp[zipT,lk]at h
 |s::r,y::q,t,x,h=>by
  simp only[zipT,yq]at h;cases Z:s.beq t<;>simp[Z]at h
  ·obtain⟨j,h1,V⟩:=zpv h;exact⟨j+1,by simpa using h1,by simpa using V⟩
  ·have:s=t:=by simpa using Z
   exact⟨0,by simp[this],by simp[h]⟩
def RndQ(P:Program)(C:Ctx)(l:Nat)(g:Gh)(w:World)(busy:Obj)(lN hN:Nat)(vs:List Value)(sl:List Nat)(nxt:List AV×List (Nat×Blk))(Jn:Prop)(Q:Exit->St->Prop)(e:Exit)(st:St):Prop:=
 ∃(tv:List AV)(hs:List (Nat×Blk)),Imp (C.rnd l g w) st ⟨[],(hN,.hold vs tv)::(lN,.obj l busy)::hs⟩∧
  match e with
  |.normal=>(tv,hs)=nxt/\Jn
  |.ret=>Q .ret ⟨zipT sl tv,(lN,.dead)::(hN,.dead)::hs⟩
  |.exit id=>Q (.exit id) ⟨zipT sl tv,(lN,.dead)::(hN,.dead)::hs⟩
  |_=>False
def zjC:List Tmp->List AV->List (Nat×AV)->List (Nat×AV)
 |t::r,x::q,s=>zjC r q ((t,x)::s)
 |_,_,s=>s
def zm7{I:Im}{ρ:Nat->Value}:∀{ps:List Tmp}{as:List AV}{vs:List Value}{s:List (Nat×AV)}{tm:Array Value},ps.length=as.length->RVL I ρ as vs->(∀p∈ps,p<tm.size)->(∀t x,lk s t=some x->RV I ρ x (tm.getD t undef))→
 ∀t x,lk (zjC ps as s) t=some x->RV I ρ x (((ps.zip vs).foldl (λtm(t,a)=>tm.setIfInBounds t a) tm).getD t undef)
 |[],[],vs,s,tm,_,_,_,h=>by simpa[zjC]using h
 |p::r,y::q,vs,s,tm,hl,hv,U,h=>by
  obtain⟨h1,T⟩:=hv;cases vs with
  |nil=>simp at h1
  |cons v us=>
   simp only[zjC,List.zip_cons_cons,xB];refine zm7 (by simpa using hl) ⟨by simpa using h1,λj c u N J=>T (j+1) c u (by simpa using N) (by simpa using J)⟩ (λp' Z=>by simpa using U p' (by simp[Z])) (λt x hx=>?_);simp only[yq]at hx;have V:=U p (by simp);simp only[jM,vV];by_cases e:p=t
   ·subst e;simp at hx;subst hx;simp[V];exact T 0 _ v (by simp) (by simp)
   grind[beqF,Array.getD_eq_getD_getElem?]
 |[],_::_,_,_,_,hl,_,_,_=>by simp at hl
 |_::_,[],_,_,_,hl,_,_,_=>by simp at hl
def zjD:∀(l:List (Tmp×Value))(tm:Array Value),(l.foldl (λtm(t,a)=>tm.setIfInBounds t a) tm).size=tm.size
 |[],tm=>rfl
 |(t,a)::r,tm=>by simp[zjD]
def Rel.putObj{C:Ctx}{st:St}{g:Gh}{a:Act}{w:World}(h:Rel C st g a w){k b:Nat}{o o':Obj}(hk:lk st.h k=some (.obj b o)):Rel C (putH st k (.obj b o')) g a (w.putObj b o'):=by
 obtain⟨h1,V,U⟩:=h.sat.blk k _ hk;refine h.modify V U ⟨rfl,rfl,rfl,by simp,λj T Z=>World.putObj_heap_other (by simpa using Z)⟩ (jE _) ⟨World.putObj_heap_same (zg h1),V,U⟩
def Rel.outof{C:Ctx}{l lN hN:Nat}{o:Obj}{vs:List Value}{tv:List AV}{sl:List Nat}{hs:List (Nat×Blk)}{st0:St}{g g2:Gh}{a1 a2:Act}{w w2:World}(h0:Rel C st0 g a1 w)
 (h:Rel (C.rnd l g w) ⟨[],(hN,.hold vs tv)::(lN,.obj l o)::hs⟩ g2 a2 w2)(H:hN≠lN)(G:vs=sl.map λt=>a1.tmps.getD t undef)(U:C.yB<=C.w0.heap.size):Rel C ⟨zipT sl tv,(lN,.obj l o)::(hN,.dead)::hs⟩ g2 a1 w2:=by
 have Z:Ext C g2 w2:=h0.ext.trans h.ext;refine⟨h0.size,?_,λt x hx=>?_,⟨h.sat.im,h.sat.ob,λk B E=>?_⟩,Z⟩
 ·obtain⟨D,h1,hn,T⟩:=h0.defers;refine⟨D,h1,hn,λr hr=>?_⟩;obtain⟨N,J,h5⟩:=T r hr
  obtain⟨e1,e2⟩:=h.ext.keep r (zg N) (λhk=>by
   rcases hk with hk|⟨n,hk⟩
   ·exact absurd hk (kJ.2 (zg N))
   ·have hk:g.O r=some (C.d,n):=hk;rw[J]at hk;simp at hk) (λ⟨y,n,_,hm⟩=>by
    have hm:g.O r=some (y,n):=hm;rw[J]at hm;simp at hm)
  simp_all
 ·obtain⟨j,h1,T⟩:=zpv hx;obtain⟨p1,p2⟩:=h.sat.blk hN (.hold vs tv) (by simp[yq]);refine p2 j x _ T ?_;simp_all
 ·have V:B=.dead\/lk ((hN,.hold vs tv)::(lN,.obj l o)::hs) k=some B:=by
   grind[yq,beqF]
  rcases V with rfl|V
  ·trivial
  ·exact(h.sat.blk k B V).outof Z.okb (λ_=>U)
def Rel.kept{C:Ctx}{st:St}{ρ:Nat->Value}{I I':Im}{O O':Owns}{a:Act}{w w':World}{B:Nat}(h:Rel C st ⟨ρ,I,O⟩ a w)(hI:Im.le I I')(hk:∀b,b<w.heap.size->(b<B\/∃y n,y∈C.d::C.ds/\O b=some (y,n))->w'.heap[b]? =w.heap[b]? /\O' b=O b)
 (h1:w'.os=w.os)(H:w'.tape=w.tape)(G:w'.output=w.output)(h5:w.drawn<=w'.drawn)(h4:w.heap.size<=w'.heap.size)(U:ImO I' O' w')(hm:∀r,mkD r∈a.defers->r<B)(hB:C.w0.heap.size<=B):Rel C st ⟨ρ,I',O'⟩ a w':=by
 have T:∀b n,b<w.heap.size->O b=some (C.d,n)->w'.heap[b]? =w.heap[b]? /\O' b=O b:=λb n Z hO=>hk b Z (.inr ⟨C.d,n,by simp,hO⟩)
 refine⟨h.size,?_,λt x hx=>(h.tmps t x hx).mono hI,⟨U.1,U.2,λk B' N=>?_⟩,?_⟩
 ·obtain⟨D,p1,hn,p2⟩:=h.defers;refine⟨D,p1,hn,λr hr=>?_⟩;obtain⟨p3,p4,p5⟩:=p2 r hr;obtain⟨e1,e2⟩:=hk r (zg p3) (.inl (hm r (p1.mem.2 hr)));simp_all
 ·have h0:=h.sat.blk k B' N;cases B' with
  |box cs E=>
   obtain⟨b,vs,q1,q2,q3,q4,q5,q6⟩:=h0;obtain⟨e1,e2⟩:=T b k (zg q4) q2;exact⟨b,vs,q1,e2.trans q2,q3,e1.trans q4,q5,λj c v V hv=>(q6 j c v V hv).mono hI⟩
  |row enc l E s=>
   obtain⟨xs,q1,q2,q3,q4⟩:=h0;refine⟨xs,?_,q2,λi x j c v hx V hv=>(q3 i x j c v hx V hv).mono hI,λb Z=>?_⟩
   ·obtain⟨p1,p2⟩:=q1;refine⟨p1,?_⟩;rcases p2 with p2|⟨b,cap,cur,hv,Z,hh,r⟩
    ·exact .inl p2
    ·have:=q4 b (by rw[hv];rfl);exact .inr ⟨b,cap,cur,hv,Z,(T b k (zg hh) this.1).1.trans hh,r⟩
   grind[zb5]
  |hold vs cs=>exact⟨h0.1,λj c v V hv=>(h0.2 j c v V hv).mono hI⟩
  |obj b o=>
   grind[yP]
  |yld j on=>
   obtain⟨q1,q2,q3,q4,q5⟩:=h0;refine⟨q1,q2,q3,λb n hn=>?_,q2 j on _ _ _ _ _ _ q5 hI (λb Z hy=>hk b Z ?_) h1 H G h5 h4 U⟩
   ·rcases wD b C.yB with hl|hl
    ·have J:b<w.heap.size:=by have:=h.ext.size;omega
     have e:=(hk b J (.inl (by omega))).2;exact q4 b n (e.symm.trans hn)
    ·exact hl
   grind
  |mpb kenc venc l=>
   obtain⟨b,es,ck,q1,q2,q3,q4,q5,q6⟩:=h0;obtain⟨e1,e2⟩:=T b k (zg q4) q2;exact⟨b,es,ck,q1,e2.trans q2,q3,e1.trans q4,q5,λi e p he hp=>⟨(q6 i e p he hp).1.mono hI,(q6 i e p he hp).2.mono hI⟩⟩
  |dead=>trivial
 ·refine⟨Im.le_trans h.ext.I hI,h1.trans h.ext.os,H.trans h.ext.tape,G.trans h.ext.output,jT h.ext.drawn h5,jT h.ext.size h4,λb Z hn ho=>?_,λb y n Z hy=>?_⟩
  ·obtain⟨p1,p2⟩:=h.ext.keep b Z hn ho
   grind
  ·have e2:=(hk b (w6 Z h.ext.size) (.inl (by omega))).2;exact h.ext.own b y n Z (e2.symm.trans hy)
def Rel.drop2{C:Ctx}{t:List (Nat×AV)}{k:Nat}{B1 B2:Blk}{h:List (Nat×Blk)}{g:Gh}{a:Act}{w:World}(hr:Rel C (putH (putH ⟨t,(k,B1)::h⟩ k B2) k .dead) g a w):Rel C ⟨t,(k,.dead)::h⟩ g a w:=by
 refine⟨hr.size,hr.defers,hr.tmps,⟨hr.sat.im,hr.sat.ob,λk' B Z=>hr.sat.blk k' B ?_⟩,hr.ext⟩
 grind[putH,yq]
def zsx:Exit->Option Code
 |.ret=>some .ret
 |.exit id=>some (.exit id)
 |_=>none
def RdOk(C:Ctx)(st:St):Prop:=match C.rd with
 |none=>True
 |some l0=>∃k0 r0,lk st.h k0=some (.obj l0 (.loop r0))
section
variable{P:Program}{C:Ctx}{st:St}{Q:Exit->St->Prop}
def Rel.enter{g:Gh}{a:Act}{w:World}(hr:Rel C st g a w)(U:RdOk C st){lN hN:Nat}(hl:st.fr lN=true)(hh:st.fr hN=true)(xT:hN≠lN)(fn:FuncId)(ps:Array Tmp)(assign body:Code):
 ∃l mark w1 g1 dfs,(Instr.enterLoop fn a.tmps ps assign body C.F.round).run P w=.ok (l,mark) w1∧
  Rel C ⟨st.t,(lN,.obj l (.loop {state:=.ready,pending:=none,fn,tmps:=a.tmps,params:=ps,assign,body,defers:=dfs}))::(hN,.dead)::st.h⟩ g1 {a with defers:=mark++a.defers} w1:=by
 --the record alone
 have key:∀(g:Gh)(a':Act)(w:World)(dfs:Nat),Rel C st g a' w->a'.tmps=a.tmps→
  Rel C ⟨st.t,(lN,.obj w.heap.size (.loop {state:=.ready,pending:=none,fn,tmps:=a.tmps,params:=ps,assign,body,defers:=dfs}))::(hN,.dead)::st.h⟩
   (g.nw C.d w.heap.size lN .nilIface) a' (w.alloc (.loop {state:=.ready,pending:=none,fn,tmps:=a.tmps,params:=ps,assign,body,defers:=dfs})):=by
  intro g a' w dfs hr ha;generalize ho:Obj.loop {state:=.ready,pending:=none,fn,tmps:=a.tmps,params:=ps,assign,body,defers:=dfs}=o;have Z:=Add.nw (g:=g) (Grow.alloc w o) C.d lN .nilIface;have J:=ImOB.nw (g:=g) ⟨hr.sat.im,hr.sat.ob⟩ (Grow.alloc w o) (by simp) C.d lN .nilIface;have h1:=hr.add (d:=none) (x:=.any) (v:=.nilIface) Z (λk hk=>by simp_all) (λt h=>by simp at h) (.any _) J.1 J.2;exact(h1.withBlk (k:=hN) (B:=.dead) trivial).withBlk (k:=lN) (B:=.obj w.heap.size o) ⟨heap_alloc_new w _,by simp[Gh.nw],.inl hr.ext.size⟩
 unfold RdOk at U;cases H:C.rd with
 |none=>
  have G:C.F.round=none:=by unfold Ctx.F;rw[H];rfl
  rw[G];have T:=Grow.alloc w (.deferred (some []))
  have h1:Rel C st g {a with defers:=mkD w.heap.size::a.defers} (w.alloc (.deferred (some []))):=by
   have Z:Add none g w g (w.alloc (.deferred (some []))):=⟨Im.le_refl _,λ_ _=>rfl,λ_ _=>rfl,T⟩;have V:=hr.add (d:=none) (x:=.any) (v:=.nilIface) Z (λk h=>by simp at h) (λt h=>by simp at h) (.any _) (λb o u hI=>⟨T.cell (hr.sat.im b o u hI).1,(hr.sat.im b o u hI).2⟩) (hr.sat.ob.up (Im.le_refl _) T.size);refine⟨V.size,?_,V.tmps,V.sat,V.ext⟩;obtain⟨D,p1,hn,p2⟩:=V.defers;obtain⟨D',q1,x4,q2⟩:=hr.defers;refine⟨w.heap.size::D,p1.push _,vF.2 ⟨λhm=>?_,hn⟩,λr N=>?_⟩
   ·have:=zg (q2 _ (q1.mem.1 (p1.mem.2 hm))).1;omega
   ·rcases wA.1 N with rfl|N
    ·refine⟨heap_alloc_new w _,?_,hr.ext.size⟩;cases hO:g.O w.heap.size with
     |none=>rfl
     |some k=>have:=hr.sat.ob.1 _ k hO;omega
    ·exact p2 r N
  have h2:=key g _ _ w.heap.size h1 rfl;exact⟨_,_,_,_,w.heap.size,run_enterLoop_outer fn a.tmps ps assign body,by simpa[mkD]using h2⟩
 |some l0=>
  rw[H]at U;obtain⟨k0,r0,E⟩:=U;have G:C.F.round=some l0:=by unfold Ctx.F;rw[H];rfl
  rw[G];have hb:=(hr.sat.blk k0 _ E).1;exact⟨_,_,_,_,r0.defers,run_enterLoop_inner hb fn a.tmps ps assign body,by simpa using key g a w r0.defers hr rfl⟩
def X.range{gop:Operand}{ps:Array Tmp}{assign body:Code}{f:FuncId}{caps caps':List AV}{xs:List (List AV)}{sl:List Nat}(B:Nat->List AV×List (Nat×Blk))(J:Nat->Prop)(lN hN:Nat)
 (hg:ev st gop=some (.fn f caps))(hnm:AV.nm.nmL caps'=true)(k9:sl.Nodup)(k8:∀(j:Nat)(as:List AV),xs[j]? =some as->AV.nm.nmL as=true)(w9:It P f caps' xs)(k7:RdOk C st)(hl:st.fr lN=true)(hh:st.fr hN=true)(E:hN≠lN)(v9:C.yB<=C.w0.heap.size)
 (k6:∀p∈ps.toList,p<C.n)(v8:∀(j:Nat)(as:List AV),xs[j]? =some as->ps.toList.length=as.length)(hB:∀j,(B j).1.length=sl.length)(hlf:AV.fr.frL lN caps=true)(hhf:AV.fr.frL hN caps=true)
 (h0:∀l o us,Imp C ⟨st.t,(hN,.hold us caps)::(lN,.obj l o)::(hN,.dead)::st.h⟩ ⟨zipT sl (B 0).1,(hN,.hold us caps')::(lN,.obj l o)::(B 0).2⟩)
 (k5:J 0)(v5:∀(j:Nat)(as:List AV),xs[j]? =some as->J j->∀(l:Nat)(ready busy:Obj)(rb:Loop)(vs:List Value)g w,busy=.loop rb->C.yB<=w.heap.size->X P (C.rnd l g w) assign ⟨zjC ps.toList as (zipT sl (B j).1),(hN,.hold vs (B j).1)::(lN,.obj l ready)::(B j).2⟩
  (λe st1=>e=.normal/\lk st1.h lN=some (.obj l ready)/\X P (C.rnd l g w) body (putH st1 lN (.obj l busy)) (RndQ P C l g w busy lN hN vs sl (B (j+1)) (J (j+1)) Q)))
 (v4:J xs.length->Q .normal ⟨zipT sl (B xs.length).1,(lN,.dead)::(hN,.dead)::(B xs.length).2⟩):X P C (.rangeFunc gop ps assign body) st Q:=λg a w hr=>by
 refine wpIn_rangeFunc λfn hfn=>?_
 obtain⟨l,mark,w1,g1,dfs,xT,v3⟩:=hr.enter (P:=P) k7 hl hh E fn ps assign body;obtain⟨us,e,hul,hu⟩:=zcY (yA hr hg)
 have k4:RVL g1.I g1.ρ caps us:=by
  have k3:ev ⟨st.t,(lN,.obj l (.loop {state:=.ready,pending:=none,fn,tmps:=a.tmps,params:=ps,assign,body,defers:=dfs}))::(hN,.dead)::st.h⟩ gop=some (.fn f caps):=by
   cases gop<;>exact hg
  obtain⟨us',e',hul',hu'⟩:=zcY (yA v3 k3);have e1:∀x:Operand,Act.eval {a with defers:=mark++a.defers} x=a.eval x:=λx=>by cases x<;>rfl
  grind[RVL]
 obtain⟨g2,Z⟩:=h0 l _ us g1 _ _ (v3.withBlk (k:=hN) (B:=.hold us caps) k4);have j4:RVL g2.I noNames caps' us:=RVL.forget (Z.sat.blk hN (.hold us caps') (by simp[yq])) hnm;have x2:hN.beq lN=false:=beqF.2 E
 --the state at a boundary
 let rec0:Loop:={state:=.ready,pending:=none,fn,tmps:=a.tmps,params:=ps,assign,body,defers:=dfs};let a1:Act:={a with defers:=mark++a.defers}
 let Y:Nat->Bool->Im->Owns->World->Prop:=λj on I O w=>∃ρ,match on with
  |true=>J j/\Rel C ⟨zipT sl (B j).1,(lN,.obj l (.loop rec0))::(hN,.dead)::(B j).2⟩ ⟨ρ,I,O⟩ a1 w
  |false=>∃e jc tv hs,zsx e=some jc/\Rel C ⟨zipT sl tv,(lN,.obj l (.loop {rec0 with state:=.done,pending:=some jc}))::(hN,.dead)::hs⟩ ⟨ρ,I,O⟩ a1 w/\Q e ⟨zipT sl tv,(lN,.dead)::(hN,.dead)::hs⟩
 have j3:Y 0 true g2.I g2.O w1:=⟨g2.ρ,k5,by
  refine⟨Z.size,Z.defers,Z.tmps,⟨Z.sat.im,Z.sat.ob,λk B' U=>?_⟩,Z.ext⟩;simp only[yq]at U;cases H:lN.beq k
  ·cases j2:hN.beq k
   ·exact Z.sat.blk k B' (by simpa[yq,H,j2]using U)
   grind[yP]
  ·have:lN=k:=by simpa using H
   subst this;exact Z.sat.blk lN B' (by grind[yq])⟩
 have v2:∀r,mkD r∈a1.defers->r<w1.heap.size:=λr v1=>by
  obtain⟨D,p1,_,p2⟩:=Z.defers;have v1:mkD r∈D.map mkD:=List.mem_map_of_mem (p1.mem.1 v1);simp_all[mkD,zg]
 have j1:YCl Y (C.d::C.ds) w1.heap.size:=by
  intro j on I O w I' O' w' hY hI hk h1 h2 h3 h5 h4 v0;cases on with
  |true=>obtain⟨ρ,hJ,V⟩:=hY;exact⟨ρ,hJ,V.kept hI hk h1 h2 h3 h5 h4 v0 v2 Z.ext.size⟩
  |false=>obtain⟨ρ,e,jc,tv,hs,q1,V,q2⟩:=hY;exact⟨ρ,e,jc,tv,hs,q1,V.kept hI hk h1 h2 h3 h5 h4 v0 v2 Z.ext.size,q2⟩
 have j0:yH P l (C.d::C.ds) Y xs:=by
  intro j as hj I O w args hY hZ G;obtain⟨ρ,hJ,V⟩:=hY;have V:Rel C ⟨zipT sl (B j).1,(lN,.obj l (.loop rec0))::(hN,.dead)::(B j).2⟩ ⟨ρ,I,O⟩ a1 w:=V;have hX:=(V.sat.blk lN (.obj l (.loop rec0)) (by simp[yq])).1
  have hW:args.toArray.size=rec0.params.size:=by
   have:=v8 j as hj;simp only[List.size_toArray,G.1,rec0];rw[←this];simp
  refine⟨_,_,_,_,_,run_yield hX hW,roundIn_of_wpIn trivial ?_⟩;have hU:=v5 j as hj hJ l (.loop rec0) (.loop {rec0 with state:=.busy}) _ (sl.map λt=>a1.tmps.getD t undef) ⟨ρ,I,O⟩ w rfl (jT v9 V.ext.size);have hok:=V.ext.okb
  have hT:∀t x,lk (zjC ps.toList as (zipT sl (B j).1)) t=some x->RV I ρ x (((rec0.params.zip args.toArray).foldl (λtmps(t,a)=>tmps.setIfInBounds t a) rec0.tmps).getD t undef):=by
   have:=zm7 (I:=I) (ρ:=ρ) (ps:=ps.toList) (as:=as) (vs:=args) (s:=zipT sl (B j).1) (tm:=a.tmps) (by rw[v8 j as hj]) (G.forget (k8 j as hj)) (λp hp=>by rw[hr.size];exact k6 p hp) (λt x hx=>V.tmps t x hx)
   grind[Array.toList_zip]
  have hQ:Rel (C.rnd l ⟨ρ,I,O⟩ w) ⟨zjC ps.toList as (zipT sl (B j).1),(hN,.hold (sl.map λt=>a1.tmps.getD t undef) (B j).1)::(lN,.obj l (.loop rec0))::(B j).2⟩ ⟨ρ,I,O⟩
   {tmps:=(rec0.params.zip args.toArray).foldl (λtmps(t,a)=>tmps.setIfInBounds t a) rec0.tmps,defers:=[]} w:=by
   refine⟨?_,Dfs.nil _ _ _,hT,⟨V.sat.im,V.sat.ob,λk B' U=>?_⟩,⟨Im.le_refl _,rfl,rfl,rfl,jE _,jE _,λ_ _ _ _=>⟨rfl,rfl⟩,λb y n _ hy=>⟨n,hy⟩⟩⟩
   ·rw[←Array.foldl_toList,zjD];exact hr.size
   ·simp only[yq]at U;cases H:hN.beq k
    ·refine(V.sat.blk k B' ?_).into (λb n hO=>.inr ⟨n,hO⟩) (λh=>jT h V.ext.size)
     grind[lk]
    ·have:B'=.hold (sl.map λt=>a1.tmps.getD t undef) (B j).1:=by simp_all
     subst this;refine⟨by simp[hB],λq c v hc hv=>?_⟩;rw[jN]at hv;cases hs:sl[q]? with
     |none=>simp[hs]at hv
     |some t=>
      simp[hs]at hv;subst hv
      have hz:∀(sl:List Nat)(xs:List AV)(q:Nat),sl.Nodup->sl[q]? =some t->xs[q]? =some c->lk (zipT sl xs) t=some c:=by
       intro sl
       induction sl with
       |nil=>simp_all
       |cons s r ih=>
        intro xs q hP h h';cases xs with
        |nil=>simp at h'
        |cons y ys=>
         cases q with
         |zero=>simp_all[zipT,yq]
         |succ q=>
          simp at h h';have E:s≠t:=λe=>(vF.1 hP).1 (e▸j8 h)
          grind[beqF,zipT,yq]
      simpa[jM]using V.tmps t c (hz sl _ q k9 hs hc)
  refine wpIn_mono (hU _ _ _ hQ) ?_
  rintro e2 a2 w2⟨st1,g3,u4,he,x4,x1⟩
  subst he;obtain⟨hM,_,_⟩:=u4.sat.blk lN _ x4;refine⟨_,run_beginRound hM rfl,?_⟩;have hK:=u4.putObj (o':=.loop {rec0 with state:=.busy}) x4;refine wpIn_mono (x1 _ _ _ hK) ?_
  rintro e3 a3 w3⟨st3,g4,hG,tv,hs,u3,hq⟩
  obtain⟨g5,u2⟩:=u3 g4 a3 w3 hG;have N:lk [(hN,Blk.hold (sl.map λt=>a1.tmps.getD t undef) tv),(lN,.obj l (.loop {rec0 with state:=.busy}))] lN=some (.obj l (.loop {rec0 with state:=.busy})):=by simp[yq,x2]
  have x3:lk ((hN,Blk.hold (sl.map λt=>a1.tmps.getD t undef) tv)::(lN,.obj l (.loop {rec0 with state:=.busy}))::hs) lN=some (.obj l (.loop {rec0 with state:=.busy})):=by simp[yq,x2]
  obtain⟨hC,_,_⟩:=u2.sat.blk lN _ x3
  --the record written
  have fin:∀(jump:Option Code),Rel C ⟨zipT sl tv,(lN,.obj l (.loop {rec0 with state:=if jump.isNone then .ready else .done,pending:=jump}))::(hN,.dead)::hs⟩ g5 a1 (w3.putObj l (.loop {rec0 with state:=if jump.isNone then .ready else .done,pending:=jump}))∧
   (Instr.endRound l jump).run P w3=.ok (.bool jump.isNone) (w3.putObj l (.loop {rec0 with state:=if jump.isNone then .ready else .done,pending:=jump}))∧
   ImO g5.I g5.O (w3.putObj l (.loop {rec0 with state:=if jump.isNone then .ready else .done,pending:=jump}))∧
   Chg (C.d::C.ds) I O w g5.I g5.O (w3.putObj l (.loop {rec0 with state:=if jump.isNone then .ready else .done,pending:=jump})):=λjump=>by
   have T:=u2.putObj (o':=.loop {rec0 with state:=if jump.isNone then .ready else .done,pending:=jump}) x3
   have h7:Rel (C.rnd l ⟨ρ,I,O⟩ w) ⟨[],(hN,.hold (sl.map λt=>a1.tmps.getD t undef) tv)::(lN,.obj l (.loop {rec0 with state:=if jump.isNone then .ready else .done,pending:=jump}))::hs⟩ g5 a3 (w3.putObj l (.loop {rec0 with state:=if jump.isNone then .ready else .done,pending:=jump})):=by
    refine⟨T.size,T.defers,T.tmps,⟨T.sat.im,T.sat.ob,λk B' U=>T.sat.blk k B' ?_⟩,T.ext⟩;simp only[putH,yq]at U⊢;cases H:lN.beq k
    ·simpa[H]using U
    ·have:lN=k:=by simpa using H
     subst this;simpa[x2]using U
   refine⟨V.outof h7 E rfl v9,run_endRound (r:={rec0 with state:=.busy}) jump hC,⟨T.sat.im,T.sat.ob⟩,⟨T.ext.I,T.ext.os,T.ext.tape,T.ext.output,T.ext.drawn,T.ext.size,λb H h9=>?_,T.ext.own⟩⟩;refine T.ext.keep b H (λhk=>?_) (λ⟨y,n,hy,hm⟩=>h9 ⟨y,n,by simp[show y∈C.ds from hy],hm⟩);rcases hk with hk|⟨n,hk⟩;all_goals grind
  cases e3 with
  |normal=>
   obtain⟨f1,f2,f3,f4⟩:=fin none;obtain⟨hq,h8⟩:(tv,hs)=B (j+1)/\J (j+1):=hq;have e1:tv=(B (j+1)).1:=by rw[←hq]
   have e2:hs=(B (j+1)).2:=by rw[←hq]
   subst e1;subst e2;exact⟨_,_,f2,true,g5.I,g5.O,rfl,⟨g5.ρ,h8,f1⟩,f3,f4⟩
  |ret=>
   obtain⟨f1,f2,f3,f4⟩:=fin (some .ret);exact⟨_,_,f2,false,g5.I,g5.O,rfl,⟨g5.ρ,.ret,.ret,tv,hs,rfl,f1,hq⟩,f3,f4⟩
  |exit id=>
   obtain⟨f1,f2,f3,f4⟩:=fin (some (.exit id));exact⟨_,_,f2,false,g5.I,g5.O,rfl,⟨g5.ρ,.exit id,.exit id,tv,hs,rfl,f1,hq⟩,f3,f4⟩
  |goto t=>exact hq.elim
  |panic c=>exact hq.elim
  |outgrown=>exact hq.elim
 have x0:=w9.2 (C.d::C.ds) l Y g2.I g2.O w1 us ⟨Z.sat.im,Z.sat.ob⟩ j4 j1 j3 j0;refine⟨l,mark,w1,{target:=.fn (.func f) us.toArray,args:= #[.func (.yield l) #[] #[]]},w1,f,(Value.func (.yield l) #[] #[]::us).toArray,w1,xT,?_,λf' _=>C.F_fn f',?_,λhx=>by rw[C.F_depth]at hx;simp at hx,?_⟩
 ·simp[resolve,e,Deferred.ofValue];rfl
 ·have:=zV (P:=P) w9.1 (#[Value.func (.yield l) #[] #[]]++us.toArray) w1;simpa[invoke]using this
 ·refine CallsIn.mono (C.calls x0) ?_
  rintro e' w'⟨v,j,on,I',O',rfl,hon,u1,hZ,hc⟩
  cases on with
  |true=>
   obtain⟨ρ,hJ,V⟩:=u1;have V:Rel C ⟨zipT sl (B j).1,(lN,.obj l (.loop rec0))::(hN,.dead)::(B j).2⟩ ⟨ρ,I',O'⟩ a1 w':=V;have hj:=hon rfl;subst hj;have N:lk ((lN,.obj l (.loop rec0))::(hN,.dead)::(B xs.length).2) lN=some (.obj l (.loop rec0)):=by simp[yq]
   have H:=(V.sat.blk lN _ N).1;refine⟨none,_,run_endLoop H (by simp[rec0]),?_⟩;have h2:=(V.putObj (o':=.loop {rec0 with state:=.exhausted}) N).withBlk (k:=lN) (B:=.dead) trivial;exact⟨_,_,h2.drop2,v4 hJ⟩
  |false=>
   obtain⟨ρ,e,jc,tv,hs,q1,V,q2⟩:=u1;have N:lk ((lN,.obj l (.loop {rec0 with state:=.done,pending:=some jc}))::(hN,.dead)::hs) lN=some (.obj l (.loop {rec0 with state:=.done,pending:=some jc})):=by simp[yq]
   have H:=(V.sat.blk lN _ N).1;refine⟨some jc,_,run_endLoop H (by simp),?_⟩;have h2:=((V.putObj (o':=.loop {rec0 with state:=.exhausted,pending:=some jc}) N).withBlk (k:=lN) (B:=.dead) trivial).drop2;cases e<;>simp[zsx]at q1;all_goals grind[wpIn_exit,wpIn_ret,lift]
end
end Go.Rse
namespace Go.Rse
open Go Go.RowKit
def RV.renameL{I:Im}{ρ ρ':Nat->Value}{x:AV}{v:Value}{ch:List Nat}(h:RV I ρ x v)(hf:∀k∈ch,x.fr k=true)(hρ:∀n,n∉ch->ρ' n=ρ n):RV I ρ' x v:=by
 induction h with
 |int k n=>exact .int k n
 |bool b=>exact .bool b
 |str s=>exact .str s
 |nils=>exact .nils
 |nilf=>exact .nilf
 |val v=>exact .val v
 |sl enc l A b o s c vs T V hm hs hI hv ih=>exact .sl enc l A b o s c vs T V hm hs hI hv
 |own k' A n c h=>
  have:k'∉ch:=λhm=>by have:=hf k' hm;simp[AV.fr]at this
  exact .own k' A n c ((hρ k' this).trans h)
 |ptr k' s i j b h=>
  have:k'∉ch:=λhm=>by have:=hf k' hm;simp[AV.fr]at this
  exact .ptr k' s i j b (by simp_all)
 |mth f k' s i j b h=>
  have:k'∉ch:=λhm=>by have:=hf k' hm;simp[AV.fr]at this
  exact .mth f k' s i j b (by simp_all)
 |sub k' s i m c A h=>
  have:k'∉ch:=λhm=>by have:=hf k' hm;simp[AV.fr]at this
  exact .sub k' s i m c A (by simp_all)
 |ept enc x j b o vs hI hv ih=>exact .ept enc x j b o vs hI hv
 |yv l=>exact .yv l
 |fn f caps vs hl hv ih=>exact .fn f caps vs hl (λj c v V Z=>ih j c v V Z (λk hk=>zu (by simpa[AV.fr]using hf k hk) V) hρ)
 |agg cs vs hl hv ih=>exact .agg cs vs hl (λj c v V Z=>ih j c v V Z (λk hk=>zu (by simpa[AV.fr]using hf k hk) V) hρ)
 |tup cs vs hl hv ih=>exact .tup cs vs hl (λj c v V Z=>ih j c v V Z (λk hk=>zu (by simpa[AV.fr]using hf k hk) V) hρ)
 |ifb b x v h ih=>exact .ifb b x v (λU=>ih U (λk hk=>by simpa[AV.fr]using hf k hk) hρ)
 |opt b x v h h0 ih=>exact .opt b x v (λU=>ih U (λk hk=>by simpa[AV.fr]using hf k hk) hρ) h0
 |mp k' b h=>
  have:k'∉ch:=λhk=>by have:=hf k' hk;simp[AV.fr]at this
  exact .mp k' b ((hρ k' this).trans h)
 |any v=>exact .any v
def fwd:List (Nat×Nat)->Nat->Option Nat
 |[],_=>none
 |(n,k)::r,m=>bif n.beq m then some k else fwd r m
def bwd:List (Nat×Nat)->Nat->Option Nat
 |[],_=>none
 |(n,k)::r,m=>bif k.beq m then some n else bwd r m
def biOk(μ:List (Nat×Nat)):Bool:=μ.all λp=>(fwd μ p.1==some p.2)&&(bwd μ p.2==some p.1)
def zpw:∀{μ:List (Nat×Nat)}{n k:Nat},fwd μ n=some k->(n,k)∈μ
 |[],_,_,h=>by simp[fwd]at h
 |(a,b)::r,n,k,h=>by
  simp only[fwd]at h;cases Z:a.beq n<;>simp[Z]at h
  ·exact wE _ (zpw h)
  simp_all
def zis:∀{μ:List (Nat×Nat)}{n k:Nat},bwd μ k=some n->(n,k)∈μ
 |[],_,_,h=>by simp[bwd]at h
 |(a,b)::r,n,k,h=>by
  simp only[bwd]at h;cases Z:b.beq k<;>simp[Z]at h
  ·exact wE _ (zis h)
  simp_all
theorem zm8{μ:List (Nat×Nat)}(h:biOk μ=true){n k:Nat}:fwd μ n=some k↔bwd μ k=some n:=by
 simp only[biOk,jF,jA,beq_iff_eq]at h;constructor
 ·intro hf;exact(h _ (zpw hf)).2
 ·intro Z;exact(h _ (zis Z)).1
def ren1(μ:List (Nat×Nat)):AV->AV
 |.own n=>.own ((fwd μ n).getD 0)
 |.ptr n s i j=>.ptr ((fwd μ n).getD 0) s i j
 |.mp n=>.mp ((fwd μ n).getD 0)
 |x=>x
def AV.ren(μ:List (Nat×Nat)):AV->AV
 |.fn f cs=>.fn f (cs.map (ren1 μ))
 |.tup cs=>.tup (cs.map (ren1 μ))
 |.agg cs=>.agg (cs.map (ren1 μ))
 |x=>ren1 μ x
def ok1(L:List Nat):AV->Bool
 |.own n=>L.any (·.beq n)
 |.ptr n _ _ _=>L.any (·.beq n)
 |.mp n=>L.any (·.beq n)
 |x=>x.nm
def AV.okN(L:List Nat):AV->Bool
 |.fn _ cs=>cs.all (ok1 L)
 |.tup cs=>cs.all (ok1 L)
 |.agg cs=>cs.all (ok1 L)
 |x=>ok1 L x
def zit{I:Im}{ρ ρ':Nat->Value}{μ:List (Nat×Nat)}{L:List Nat}(hρ:∀n∈L,ρ' ((fwd μ n).getD 0)=ρ n){x:AV}{v:Value}(hk:ok1 L x=true)(h:RV I ρ x v):RV I ρ' (ren1 μ x) v:=by
 cases x with
 |own n=>
  have:n∈L:=by simp_all[ok1]
  cases h;exact .own _ _ _ _ ((hρ n this).trans (by assumption))
 |ptr n s i j=>
  have:n∈L:=by simp_all[ok1]
  cases h;exact .ptr _ _ _ _ _ (by simp_all)
 |mp n=>
  have:n∈L:=by simp_all[ok1]
  cases h;exact .mp _ _ ((hρ n this).trans (by assumption))
 |_=>exact h.forget hk
def ziu{I:Im}{ρ ρ':Nat->Value}{μ:List (Nat×Nat)}{L:List Nat}(hρ:∀n∈L,ρ' ((fwd μ n).getD 0)=ρ n){x:AV}{v:Value}(hk:ok1 L x=true)(h:RV I ρ' (ren1 μ x) v):RV I ρ x v:=by
 cases x with
 |own n=>
  have:n∈L:=by simp_all[ok1]
  have h:RV I ρ' (.own ((fwd μ n).getD 0)) v:=h;cases h;exact .own _ _ _ _ ((hρ n this).symm.trans (by assumption))
 |ptr n s i j=>
  have:n∈L:=by simp_all[ok1]
  have h:RV I ρ' (.ptr ((fwd μ n).getD 0) s i j) v:=h;cases h;exact .ptr _ _ _ _ _ (by simp_all)
 |mp n=>
  have:n∈L:=by simp_all[ok1]
  have h:RV I ρ' (.mp ((fwd μ n).getD 0)) v:=h;cases h;exact .mp _ _ ((hρ n this).symm.trans (by assumption))
 |_=>exact RV.forget h hk
theorem zsy{I:Im}{ρ ρ':Nat->Value}{μ:List (Nat×Nat)}{L:List Nat}(hρ:∀n∈L,ρ' ((fwd μ n).getD 0)=ρ n){x:AV}{v:Value}(hk:x.okN L=true)(h:RV I ρ x v):RV I ρ' (x.ren μ) v:=by
 have hl:∀(cs:List AV)(us:List Value),cs.all (ok1 L)=true->us.length=cs.length->(∀(j:Nat)(c:AV)(v:Value),cs[j]? =some c->us[j]? =some v->RV I ρ c v)→
  ∀(j:Nat)(c:AV)(v:Value),(cs.map (ren1 μ))[j]? =some c->us[j]? =some v->RV I ρ' c v:=λcs us hk hl hv j c v V T=>by
  rw[jN]at V;cases U:cs[j]? with
  |none=>simp[U]at V
  |some z=>
   simp[U]at V;subst V;exact zit hρ (jF.1 hk z (j8 U)) (hv j z v U T)
 cases x with
 |fn f cs=>cases h;rename_i us h1 Z;exact .fn f _ us (by simpa using h1) (hl cs us hk h1 Z)
 |tup cs=>cases h;rename_i us h1 Z;exact .tup _ us (by simpa using h1) (hl cs us hk h1 Z)
 |agg cs=>cases h;rename_i us h1 Z;exact .agg _ us (by simpa using h1) (hl cs us hk h1 Z)
 |own n=>exact zit (x:=.own n) hρ hk h
 |ptr n s i j=>exact zit (x:=.ptr n s i j) hρ hk h
 |mp n=>exact zit (x:=.mp n) hρ hk h
 |_=>exact h.forget hk
def zsz{I:Im}{ρ ρ':Nat->Value}{μ:List (Nat×Nat)}{L:List Nat}(hρ:∀n∈L,ρ' ((fwd μ n).getD 0)=ρ n){x:AV}{v:Value}(hk:x.okN L=true)(h:RV I ρ' (x.ren μ) v):RV I ρ x v:=by
 have hl:∀(cs:List AV)(us:List Value),cs.all (ok1 L)=true->us.length=(cs.map (ren1 μ)).length->(∀(j:Nat)(c:AV)(v:Value),(cs.map (ren1 μ))[j]? =some c->us[j]? =some v->RV I ρ' c v)→
  ∀(j:Nat)(c:AV)(v:Value),cs[j]? =some c->us[j]? =some v->RV I ρ c v:=λcs us hk hl hv j c v V U=>
  ziu hρ (jF.1 hk c (j8 V)) (hv j _ v (by simp_all) U)
 cases x with
 |fn f cs=>
  have h:RV I ρ' (.fn f (cs.map (ren1 μ))) v:=h;cases h;rename_i us h1 Z;exact .fn f _ us (by simpa using h1) (hl cs us hk h1 Z)
 |tup cs=>
  have h:RV I ρ' (.tup (cs.map (ren1 μ))) v:=h;cases h;rename_i us h1 Z;exact .tup _ us (by simpa using h1) (hl cs us hk h1 Z)
 |agg cs=>
  have h:RV I ρ' (.agg (cs.map (ren1 μ))) v:=h;cases h;rename_i us h1 Z;exact .agg _ us (by simpa using h1) (hl cs us hk h1 Z)
 |own n=>exact ziu (x:=.own n) hρ hk h
 |ptr n s i j=>exact ziu (x:=.ptr n s i j) hρ hk h
 |mp n=>exact ziu (x:=.mp n) hρ hk h
 |_=>exact RV.forget h hk
def Blk.nm:Blk->Bool
 |.box cs _=>AV.nm.nmL cs
 |.row _ _ _ _=>true
 |.mpb _ _ _=>true
 |_=>false
def keys(h:List (Nat×Blk)):List Nat:=h.map (·.1)
def Blk.okNB(L:List Nat):Blk->Bool
 |.box cs _=>cs.all (AV.okN L)
 |.row _ _ _ _=>true
 |.mpb _ _ _=>true
 |_=>false
def Blk.renB(μ:List (Nat×Nat)):Blk->Blk
 |.box cs E=>.box (cs.map (AV.ren μ)) E
 |B=>B
def FnO(P:Program)(f:FuncId)(as:List AV)(hs:List (Nat×Blk))(kp:List Nat)(r:AV)(hs':List (Nat×Blk)):Prop:=
 zan P f=true/\∀(d:Nat)(ρ:Nat->Value)(I:Im)(O:Owns)(w:World)(args:List Value),Sat (C0 0 d ⟨ρ,I,O⟩ w) hs ⟨ρ,I,O⟩ w->RVL I ρ as args→
  Calls P f args.toArray w λe w'=>∃v ρ' I' O',e=.returned v/\Sat (C0 0 d ⟨ρ,I,O⟩ w) hs' ⟨ρ',I',O'⟩ w'/\RV I' ρ' r v/\Ext (C0 0 d ⟨ρ,I,O⟩ w) ⟨ρ',I',O'⟩ w'/\∀n∈kp,ρ' n=ρ n
def hdr(h:List (Nat×Blk))(n:Nat):Option AV:=match lk h n with
 |some (.row _ _ _ _)=>some (.own n)
 |some (.box _ _)=>some (.ptr n 0 0 0)
 |some (.mpb _ _ _)=>some (.mp n)
 |_=>none
abbrev kN:Nat:=1000001
theorem zy6{C:Ctx}{h:List (Nat×Blk)}{g:Gh}{w:World}(hs:Sat C h g w){n:Nat}{x:AV}(hx:hdr h n=some x):RV g.I g.ρ x (g.ρ n):=by
 unfold hdr at hx;split at hx
 ·rename_i Z;injection hx with hx;subst hx;obtain⟨xs,h1,_⟩:=hs.blk n _ Z;rcases h1.2 with⟨e,_⟩|⟨b,cap,cur,e,_⟩
  ·rw[e];exact .own n _ _ _ e
  ·rw[e];exact .own n _ _ _ e
 ·rename_i Z;injection hx with hx;subst hx;obtain⟨b,vs,h1,_⟩:=hs.blk n _ Z;rw[h1];have:=RV.ptr (I:=g.I) (ρ:=g.ρ) n 0 0 0 b (by rw[h1];rfl);simpa using this
 ·rename_i Z;injection hx with hx;subst hx;obtain⟨b,es,ck,h1,_⟩:=hs.blk n _ Z;rw[h1];exact .mp n b h1
 ·simp at hx
def zuC{C:Ctx}{h:List (Nat×Blk)}{g:Gh}{w:World}(hs:Sat C h g w){n:Nat}{x:AV}(hx:hdr h n=some x){v:Value}(hv:RV g.I g.ρ x v):g.ρ n=v:=by
 unfold hdr at hx;split at hx
 ·grind[zaa]
 ·rename_i Z;injection hx with hx;subst hx;obtain⟨b,vs,h1,_⟩:=hs.blk n _ Z
  grind[zah,y9]
 ·rename_i Z;injection hx with hx;subst hx;cases hv<;>grind
 ·simp at hx
def zg9{C:Ctx}{h:List (Nat×Blk)}{g:Gh}{w:World}(hs:Sat C h g w):∀{kp:List Nat}{cs:List AV},kp.mapM (hdr h)=some cs->RVL g.I g.ρ cs (kp.map g.ρ)
 |[],cs,e=>by grind[RVL]
 |n::r,cs,e=>by
  simp only[xL]at e;cases h1:hdr h n with
  |none=>simp[h1]at e
  |some x=>
   cases Z:r.mapM (hdr h)with
   |none=>simp[h1,Z]at e
   |some ys=>
    simp[h1,Z]at e;subst e;obtain⟨hl,hv⟩:=zg9 hs Z
    grind[zy6,RVL]
def zeU{C:Ctx}{h:List (Nat×Blk)}{g:Gh}{w:World}(hs:Sat C h g w){ρ:Nat->Value}:∀{kp:List Nat}{cs:List AV},kp.mapM (hdr h)=some cs->RVL g.I g.ρ cs (kp.map ρ)->∀n∈kp,g.ρ n=ρ n
 |[],cs,e,_,n,hn=>by simp at hn
 |m::r,cs,e,hv,n,hn=>by
  simp only[xL]at e;cases h1:hdr h m with
  |none=>simp[h1]at e
  |some x=>
   cases Z:r.mapM (hdr h)with
   |none=>simp[h1,Z]at e
   |some ys=>
    simp[h1,Z]at e;subst e;rcases wA.1 hn with rfl|hn
    ·exact zuC hs h1 (hv.2 0 x _ (by simp) (by simp))
    ·exact zeU hs Z ⟨by simpa using hv.1,λj c v U V=>hv.2 (j+1) c v (by simpa using U) (by simpa using V)⟩ n hn
def zpx(P:Program)(C:Ctx)(rv:List ResultVar)(r:AV)(vs:List Value)(cs:List AV)(hs':List (Nat×Blk))(e:Exit)(st:St):Prop:=
 (e=.normal\/e=.ret)/\∃ts,Imp C st ⟨ts,(kN,.hold vs cs)::hs'⟩/\RetVs P ⟨ts,(kN,.hold vs cs)::hs'⟩ rv r
def yP.ctx{n n' d:Nat}{g0 g:Gh}{w0 w:World}{k:Nat}{B:Blk}(h:yP (C0 n d g0 w0) g w k B):yP (C0 n' d g0 w0) g w k B:=by
 cases B<;>exact h
theorem zeV{α:Type 1}:∀{h:List (Nat×α)}{k:Nat},(h.all λp=>!(p.1.beq k))=true->lk h k=none
 |[],_,_=>rfl
 |(k',B)::r,k,h=>by
  simp only[x8,jA]at h;have:k'.beq k=false:=by simpa using h.1
  simp[yq,this,zeV h.2]
def FnO.intro{P:Program}{f:FuncId}{fn:Func}{c:Code}{n:Nat}{as:List AV}{ts:List (Nat×AV)}{rv:List ResultVar}{r:AV}{hs U:List (Nat×Blk)}{kp:List Nat}{cs:List AV}(hc:zan P f=true)(hf:P.funcs[f]? =some fn)(hb:fn.body=some c)(hn:fn.ntmps=n)(x1:fn.results=rv.toArray)
 (x0:zbx 0 as=ts)(v4:as.length<=n)(v2:(hs.all λp=>!(p.1.beq kN))=true)(v3:(U.all λp=>!(p.1.beq kN))=true)(w9:kp.mapM (hdr hs)=some cs)(H:kp.mapM (hdr U)=some cs)
 (h:∀g w d vs,X P (C0 n d g w) c ⟨ts,(kN,.hold vs cs)::hs⟩ (zpx P (C0 n d g w) rv r vs cs U)):FnO P f as hs kp r U:=by
 refine⟨hc,λd ρ I O w args V T=>(callsIn_wide (n:=0)).1 (callsIn_of_wp_marks hf hb trivial ?_)⟩;subst x0;have v1:args.length=as.length:=T.1;let C:=C0 n d ⟨ρ,I,O⟩ w
 have G:Rel C ⟨zbx 0 as,(kN,.hold (kp.map ρ) cs)::hs⟩ ⟨ρ,I,O⟩ {tmps:=args.toArray++Array.replicate (fn.ntmps-args.toArray.size) undef,defers:=[]} w:=by
  refine⟨by simp[hn,C];omega,Dfs.nil _ _ _,λt x hx=>?_,⟨V.im,V.ob,λk B J=>?_⟩,⟨Im.le_refl _,rfl,rfl,rfl,jE _,jE _,λ_ _ _ _=>⟨rfl,rfl⟩,λb y n _ hy=>⟨n,hy⟩⟩⟩
  ·obtain⟨_,E⟩:=zc2 (I:=I) (ρ:=ρ) as 0 t x hx;simp only[x6]at E;have ht:t<args.length:=by grind
   have e:(args.toArray++Array.replicate (fn.ntmps-args.toArray.size) undef).getD t undef=args[t]:=by
    simp[jM,uU,ht]
   rw[e];exact T.2 t x _ E (jB ht)
  ·simp only[yq]at J;cases w2:kN.beq k<;>simp[w2]at J
   ·exact(V.blk k B J).ctx
   ·subst J;exact zg9 (g:=⟨ρ,I,O⟩) V w9
 refine wpIn_mono (h _ w d _ _ _ w G) ?_
 rintro e a w'⟨st,g1,v9,he,ts',xT,x4⟩
 obtain⟨g2,N⟩:=xT g1 a w' v9
 have x3:LeavesInM Fence.wide 0 P fn a.tmps (λe w'=>∃v ρ' I' O',e=.returned v/\Sat (C0 0 d ⟨ρ,I,O⟩ w) U ⟨ρ',I',O'⟩ w'/\RV I' ρ' r v/\Ext (C0 0 d ⟨ρ,I,O⟩ w) ⟨ρ',I',O'⟩ w'/\∀n∈kp,ρ' n=ρ n) a.defers .returning w':=by
  obtain⟨D,hD,v8,v5⟩:=N.defers;refine zaW (C:=C) x1 x4 rfl (λg3 w3 v Z hv=>?_) D hD.plain v8 v5 ⟨N.size,Dfs.nil _ _ _,N.tmps,N.sat,N.ext⟩
  have x2:Sat (C0 0 d ⟨ρ,I,O⟩ w) U g3 w3:=⟨Z.sat.im,Z.sat.ob,λk B J=>by
   refine(Z.sat.blk k B ?_).ctx
   have:kN.beq k=false:=by
    cases hb:kN.beq k
    ·rfl
    ·have:kN=k:=by simpa using hb
     grind[zeV]
   simp[yq,this,J]⟩
  have hh:=Z.sat.blk kN (.hold (kp.map ρ) cs) (by simp[yq]);exact⟨v,g3.ρ,g3.I,g3.O,rfl,x2,hv,⟨Z.ext.I,Z.ext.os,Z.ext.tape,Z.ext.output,Z.ext.drawn,Z.ext.size,Z.ext.keep,Z.ext.own⟩,zeU (ρ:=ρ) x2 H hh⟩
 rcases he with rfl|rfl<;>exact x3
end Go.Rse
namespace Go.Rse
open Go Go.RowKit
def inO(O:Owns)(d dc:Nat)(μ:List (Nat×Nat)):Owns:=λb=>match O b with
 |some (y,k)=>if y=d then(match bwd μ k with|some n=>some (dc,n)|none=>some (y,k))else some (y,k)
 |none=>none
def outO(O:Owns)(d dc:Nat)(μ:List (Nat×Nat)):Owns:=λb=>match O b with
 |some (y,n)=>if y=dc then(match fwd μ n with|some k=>some (d,k)|none=>none)else some (y,n)
 |none=>none
def outB(μ:List (Nat×Nat)):List (Nat×Blk)->List (Nat×Blk)
 |[]=>[]
 |(n,B)::r=>((fwd μ n).getD 0,B.renB μ)::outB μ r
def zfM(μ:List (Nat×Nat))(Z:List (Nat×Blk)):List (Nat×Blk)->List (Nat×Blk)
 |[]=>[]
 |(n,B)::r=>bif(Z.any λp=>p.1.beq n)then zfM μ Z r else((fwd μ n).getD 0,.dead)::zfM μ Z r
def zaN(st:St)(μ:List (Nat×Nat))(L:List Nat):List (Nat×Blk)->Prop
 |[]=>True
 |(n,B)::r=>(∃k B',fwd μ n=some k/\lk st.h k=some B'/\LeB B' (B.renB μ)/\B.okNB L=true)/\zaN st μ L r
def zjE{st:St}{μ:List (Nat×Nat)}{L:List Nat}:∀{hs:List (Nat×Blk)},zaN st μ L hs->∀{n:Nat}{B:Blk},lk hs n=some B->∃k B',fwd μ n=some k/\lk st.h k=some B'/\LeB B' (B.renB μ)/\B.okNB L=true
 |[],_,_,_,h=>by simp[lk]at h
 |(m,B0)::r,h,n,B,e=>by
  simp only[yq]at e;cases Z:m.beq n<;>simp[Z]at e
  ·exact zjE h.2 e
  ·have:m=n:=by simpa using Z
   subst this;subst e;exact h.1
def yP.move{C C':Ctx}{g g':Gh}{w:World}{n k:Nat}{B:Blk}(h:yP C g w n B)(hn:B.nm=true)(hI:g'.I=g.I)(hρ:g'.ρ k=g.ρ n)(Z:∀b,g.O b=some (C.d,n)->g'.O b=some (C'.d,k)/\C'.okb b):yP C' g' w k B:=by
 cases B with
 |box cs E=>
  obtain⟨b,vs,h1,V,H,T,N,J⟩:=h;exact⟨b,vs,hρ.trans h1,(Z b V).1,(Z b V).2,T,N,λj c v U hv=>by rw[hI];exact(J j c v U hv).forget (zw hn U)⟩
 |row enc l E s=>
  grind[yP]
 |hold vs cs=>simp[Blk.nm]at hn
 |obj b o=>simp[Blk.nm]at hn
 |yld j on=>simp[Blk.nm]at hn
 |mpb kenc venc l=>
  grind[yP]
 |dead=>trivial
def zj8{C C':Ctx}{g g':Gh}{w:World}{n k:Nat}{B:Blk}{μ:List (Nat×Nat)}{L:List Nat}(h:yP C g w k (B.renB μ))(hn:B.okNB L=true)(hI:g'.I=g.I)(hρ:g'.ρ n=g.ρ k)(G:∀x v,AV.okN L x=true->RV g.I g.ρ (x.ren μ) v->RV g.I g'.ρ x v)(T:∀b,g.O b=some (C.d,k)->g'.O b=some (C'.d,n)/\C'.okb b):yP C' g' w n B:=by
 cases B with
 |box cs E=>
  obtain⟨b,vs,h1,Z,N,V,J,H⟩:=h
  exact⟨b,vs,hρ.trans h1,(T b Z).1,(T b Z).2,V,by simpa using J,λj c v U hv=>by
   rw[hI];exact G c v (jF.1 hn c (j8 U)) (H j _ v (by simp_all) hv)⟩
 |row enc l E s=>
  obtain⟨xs,h1,Z,N,V⟩:=h
  grind[yP]
 |hold vs cs=>simp[Blk.okNB]at hn
 |obj b o=>simp[Blk.okNB]at hn
 |yld j on=>simp[Blk.okNB]at hn
 |mpb kenc venc l=>
  obtain⟨b,es,ck,h1,Z,N,V,J,H⟩:=h
  grind[yP]
 |dead=>trivial
def zjF{C C':Ctx}{g g':Gh}{w:World}{n k:Nat}{B:Blk}{μ:List (Nat×Nat)}{L:List Nat}(h:yP C g w n B)(hn:B.okNB L=true)(hI:g'.I=g.I)(hρ:g'.ρ k=g.ρ n)(Z:∀x v,AV.okN L x=true->RV g.I g.ρ x v->RV g.I g'.ρ (x.ren μ) v)(V:∀b,g.O b=some (C.d,n)->g'.O b=some (C'.d,k)/\C'.okb b):yP C' g' w k (B.renB μ):=by
 cases B<;>grind[Blk.okNB,yP,Blk.renB]
def zpy{μ:List (Nat×Nat)}(hμ:biOk μ=true):∀{hs:List (Nat×Blk)}{k:Nat}{B:Blk},(∀p∈hs,(fwd μ p.1).isSome=true)->lk (outB μ hs) k=some B->∃n B1,fwd μ n=some k/\lk hs n=some B1/\B=B1.renB μ
 |[],_,_,_,h=>by simp[outB,lk]at h
 |(n,B0)::r,k,B,hk,h=>by
  simp only[outB,yq]at h;obtain⟨k0,Z⟩:=wY.1 (hk (n,B0) (by simp));have Z:fwd μ n=some k0:=Z;simp only[Z,vR]at h;cases V:k0.beq k<;>simp[V]at h
  ·obtain⟨m,B1,h1,T,N⟩:=zpy hμ (λp U=>hk p (by simp[U])) h
   grind[yq,beqF]
  ·have:k0=k:=by simpa using V
   subst this;exact⟨n,B0,Z,by simp[yq],h.symm⟩
theorem zgl{μ:List (Nat×Nat)}{Z:List (Nat×Blk)}:∀{hs:List (Nat×Blk)}{k:Nat}{B:Blk},lk (zfM μ Z hs) k=some B->B=.dead
 |[],_,_,h=>by simp[zfM,lk]at h
 |(n,B0)::r,k,B,h=>by
  simp only[zfM]at h;cases U:(Z.any λp=>p.1.beq n)<;>simp[U]at h
  ·simp only[yq]at h;cases V:Nat.beq ((fwd μ n).getD 0) k<;>simp[V]at h
   ·exact zgl h
   ·exact h.symm
  ·exact zgl h
def zcF{α:Type 1}:∀(l l':List (Nat×α))(k:Nat),lk (l++l') k=match lk l k with|some x=>some x|none=>lk l' k
 |[],l',k=>rfl
 |(n,x)::r,l',k=>by
  simp only[uL,yq];cases n.beq k<;>simp[zcF r l' k]
def zjG{α:Type 1}:∀{l:List (Nat×α)}{n:Nat},(l.any λp=>p.1.beq n)=true↔∃x,lk l n=some x
 |[],n=>by simp[lk]
 |(m,y)::r,n=>by
  simp only[kI,wJ,yq];cases Z:m.beq n;all_goals simp[zjG]
def zkL{μ:List (Nat×Nat)}{Z:List (Nat×Blk)}{n k:Nat}(hk:fwd μ n=some k):∀{hs:List (Nat×Blk)},(∃B,lk hs n=some B)->lk Z n=none->∃B,lk (zfM μ Z hs) k=some B
 |[],⟨B,h⟩,_=>by simp[lk]at h
 |(m,B0)::r,⟨B,h⟩,hn=>by
  simp only[yq]at h;simp only[zfM];cases U:m.beq n<;>simp[U]at h
  ·obtain⟨B',T⟩:=zkL hk ⟨B,h⟩ hn
   grind[yq]
  ·have:m=n:=by simpa using U
   subst this
   have V:(Z.any λp=>p.1.beq m)=false:=by
    cases N:(Z.any λp=>p.1.beq m)
    ·rfl
    ·obtain⟨x,hx⟩:=zjG.1 N;rw[hn]at hx;simp at hx
   simp only[V,cond_false,yq,hk,vR];simp_all
def zsA{α:Type 1}:∀{l:List (Nat×α)}{n:Nat}{x:α},lk l n=some x->(n,x)∈l
 |[],_,_,h=>by simp[lk]at h
 |(m,y)::r,n,x,h=>by
  simp only[yq]at h;cases Z:m.beq n<;>simp[Z]at h
  ·exact wE _ (zsA h)
  simp_all
def zm9{μ:List (Nat×Nat)}{n k:Nat}(hk:fwd μ n=some k):∀{hs:List (Nat×Blk)},(∃B,lk hs n=some B)->∃B,lk (outB μ hs) k=some B
 |[],⟨B,h⟩=>by simp[lk]at h
 |(m,B0)::r,⟨B,h⟩=>by
  simp only[yq]at h;simp only[outB,yq];cases Z:Nat.beq ((fwd μ m).getD 0) k
  ·cases V:m.beq n<;>simp[V]at h
   ·simpa using zm9 hk ⟨B,h⟩
   ·have:m=n:=by simpa using V
    subst this;rw[hk]at Z;simp at Z
  simp
def yP.held{C:Ctx}{g g':Gh}{w w':World}{k:Nat}{B:Blk}(h:yP C g w k B)(hI:Im.le g.I g'.I)(G:∀b,b<w.heap.size->g.O b=some (C.d,k)->w'.heap[b]? =w.heap[b]? /\g'.O b=g.O b){ch:List Nat}
 (hρ:g'.ρ k=g.ρ k)(hv:∀x v,(∀k∈ch,AV.fr k x=true)->RV g.I g.ρ x v->RV g.I g'.ρ x v)(hf:∀k∈ch,B.fr k=true)(hy:∀j on,B=.yld j on->yP C g' w' k B):yP C g' w' k B:=by
 cases B with
 |box cs E=>
  obtain⟨b,vs,h1,U,N,T,h5,H⟩:=h;obtain⟨e1,e2⟩:=G b (zg T) U;exact⟨b,vs,hρ.trans h1,e2.trans U,N,e1.trans T,h5,λj c v Z V=>(hv c v (λk hk=>zu (by simpa[Blk.fr]using hf k hk) Z) (H j c v Z V)).mono hI⟩
 |row enc l E s=>
  obtain⟨xs,h1,U,N,T⟩:=h;refine⟨xs,?_,U,λi x j c v hx Z V=>(N i x j c v hx Z V).mono hI,λb J=>?_⟩
  ·rw[hρ];obtain⟨p1,p2⟩:=h1;refine⟨p1,?_⟩;rcases p2 with p2|⟨b,cap,cur,hv,J,hh,r⟩
   ·exact .inl p2
   ·have:=T b (by rw[hv];rfl);exact .inr ⟨b,cap,cur,hv,J,(G b (zg hh) this.1).1.trans hh,r⟩
  grind[zb5]
 |hold vs cs=>exact⟨h.1,λj c v Z V=>(hv c v (λk hk=>zu (by simpa[Blk.fr]using hf k hk) Z) (h.2 j c v Z V)).mono hI⟩
 |obj b o=>
  grind[yP]
 |yld j on=>exact hy j on rfl
 |mpb kenc venc l=>
  obtain⟨b,es,ck,h1,U,N,T,h5,H⟩:=h;obtain⟨e1,e2⟩:=G b (zg T) U;exact⟨b,es,ck,hρ.trans h1,e2.trans U,N,e1.trans T,h5,λi e p he hp=>⟨(H i e p he hp).1.mono hI,(H i e p he hp).2.mono hI⟩⟩
 |dead=>trivial
def zbP(st:St)(μ:List (Nat×Nat))(hs Z:List (Nat×Blk))(d:Option Nat)(r:AV):St:=⟨consT d (r.ren μ) st.t,outB μ Z++(zfM μ Z hs++st.h)⟩
def FnR(P:Program)(f:FuncId)(as:List AV)(hs:List (Nat×Blk))(kp:List Nat)(E:Ending->Value->Prop)(r:AV)(hs':List (Nat×Blk)):Prop:=
 zan P f=true/\∀(d:Nat)(ρ:Nat->Value)(I:Im)(O:Owns)(w:World)(args:List Value),Sat (C0 0 d ⟨ρ,I,O⟩ w) hs ⟨ρ,I,O⟩ w->RVL I ρ as args→
  Calls P f args.toArray w λe w'=>∃v ρ' I' O',E e v/\Sat (C0 0 d ⟨ρ,I,O⟩ w) hs' ⟨ρ',I',O'⟩ w'/\RV I' ρ' r v/\Ext (C0 0 d ⟨ρ,I,O⟩ w) ⟨ρ',I',O'⟩ w'/\∀n∈kp,ρ' n=ρ n
def FnO.r{P:Program}{f:FuncId}{as:List AV}{hs Z:List (Nat×Blk)}{kp:List Nat}{r:AV}(h:FnO P f as hs kp r Z):FnR P f as hs kp (λe v=>e=.returned v) r Z:=h
def zn4{T:Array Value->World->(Ending->World->Prop)->Prop}(hT:∀{A w R R'},T A w R->(∀e w',R e w'->R' e w')->T A w R'){C:Ctx}{st:St}{E:Ending->Value->Prop}{dst:Option Tmp}{as:List AV}{hs Z:List (Nat×Blk)}{kp:List Nat}{r:AV}{vals:List Value}
 (μ:List (Nat×Nat))(h:∀(d:Nat)(ρ:Nat->Value)(I:Im)(O:Owns)(w:World)(args:List Value),Sat (C0 0 d ⟨ρ,I,O⟩ w) hs ⟨ρ,I,O⟩ w->RVL I ρ as args→
  T args.toArray w λe w'=>∃v ρ' I' O',E e v/\Sat (C0 0 d ⟨ρ,I,O⟩ w) Z ⟨ρ',I',O'⟩ w'/\RV I' ρ' r v/\Ext (C0 0 d ⟨ρ,I,O⟩ w) ⟨ρ',I',O'⟩ w'/\∀n∈kp,ρ' n=ρ n)
 (hμ:biOk μ=true)(v1:as.all (AV.okN (keys hs))=true)(h9:r.okN (keys Z)=true)
 (j0:zaN st μ (keys hs) hs)(x4:∀p∈Z,(fwd μ p.1).isSome=true/\p.2.okNB (keys Z)=true)(x3:∀p∈μ,kp.any (·.beq p.1)=true\/(hs.any (·.1.beq p.1)=true/\Z.any (·.1.beq p.1)=false)\/(hs.any (·.1.beq p.1)=false/\st.fr p.2=true))
 (u4:∀n∈kp,hs.any (·.1.beq n)=true)(hd:dOk C.n dst=true){g:Gh}{a:Act}{w:World}(hr:Rel C st g a w)(v9:RVL g.I g.ρ (as.map (AV.ren μ)) vals):
 T vals.toArray w λe w'=>∃v g',E e v/\Rel C (zbP st μ hs Z dst r) g' (a.put dst v) w':=by
 obtain⟨dc,h8,u3⟩:=zc5 g.O w.heap.size (C.d::C.ds) hr.sat.ob.1;have hP:C.d≠dc:=λe=>u3 (by simp[e])
 have hM:dc∉C.ds:=λe=>u3 (by simp[e])
 --the callee's view
 let ρc:Nat->Value:=λn=>g.ρ ((fwd μ n).getD 0)
 let Oc:=inO g.O C.d dc μ
 have u2:∀b n,Oc b=some (dc,n)↔∃k,g.O b=some (C.d,k)/\bwd μ k=some n:=λb n=>by
  grind[inO]
 have u1:∀b,(∀n,Oc b≠some (dc,n))->Oc b=g.O b:=λb U=>by
  grind[inO]
 have hOcnone:∀b,g.O b=none->Oc b=none:=λb U=>by simp[Oc,inO,U]
 have k9:Sat (C0 0 dc ⟨ρc,g.I,Oc⟩ w) hs ⟨ρc,g.I,Oc⟩ w:=by
  refine⟨λb o v hI=>⟨(hr.sat.im b o v hI).1,hOcnone b (hr.sat.im b o v hI).2⟩,⟨λb k hO=>?_,hr.sat.ob.2⟩,λn B J=>?_⟩
  ·cases hZ:g.O b with
   |none=>simp_all
   |some p=>exact hr.sat.ob.1 b p hZ
  ·obtain⟨k,B',h1,N,h3,h4⟩:=zjE j0 J;refine zj8 (C:=C) (k:=k) (μ:=μ) (L:=keys hs) (h3 C g w k (hr.sat.blk k B' N)) h4 rfl (by simp[ρc,h1]) (λx v hx hv=>zsz (μ:=μ) (ρ':=g.ρ) (L:=keys hs) (λn _=>rfl) hx hv) (λb U=>?_)
   grind[zm8,Ctx.okb]
 have k8:RVL g.I ρc as vals:=by
  refine⟨by rw[v9.1];simp,λj c v hc hv=>?_⟩;exact zsz (μ:=μ) (ρ':=g.ρ) (L:=keys hs) (λn _=>rfl) (jF.1 v1 c (j8 hc)) (v9.2 j _ v (by simp_all) hv)
 refine hT (h dc ρc g.I Oc w _ k9 k8) ?_
 rintro e w'⟨v,ρ',I',O',hY,G,hv1,V,hK⟩
 --the caller's view again
 let On:=outO O' C.d dc μ
 let ρn:Nat->Value:=λk=>match bwd μ k with
  |some n=>if Z.any (·.1.beq n)=true then ρ' n else g.ρ k
  |none=>g.ρ k
 have k7:∀b n k,O' b=some (dc,n)->fwd μ n=some k->On b=some (C.d,k):=λb n k h1 N=>by simp[On,outO,h1,N]
 have hG:∀b y n,O' b=some (y,n)->y≠dc->On b=some (y,n):=λb y n h1 N=>by simp[On,outO,h1,N]
 have k6:∀b,O' b=none->On b=none:=λb h1=>by simp[On,outO,h1]
 have v8:∀b y k,On b=some (y,k)->(y=C.d/\∃n,O' b=some (dc,n))\/(y≠dc/\O' b=some (y,k)):=λb y k U=>by
  grind[outO]
 --what the callee v1 left
 have H:∀b,b<w.heap.size->(∀n,Oc b≠some (dc,n))->w'.heap[b]? =w.heap[b]? /\On b=g.O b:=λb U w9=>by
  obtain⟨p1,p2⟩:=V.keep b U (λhk=>by
   rcases hk with hk|⟨n,hk⟩
   ·exact absurd hk (kJ.2 U)
   ·exact w9 n hk) (λ⟨y,n,hy,_⟩=>by simp at hy)
  have p2:O' b=Oc b:=p2;rw[u1 b w9]at p2;refine⟨p1,?_⟩;cases hO:g.O b<;>grind
 have j1:∀b y k,g.O b=some (y,k)->y≠C.d->∀n,Oc b≠some (dc,n):=λb y k hO hy n hn=>by
  simp_all
 have x2:ImO I' On w':=by
  refine⟨λb o u hI=>⟨(G.im b o u hI).1,k6 b (G.im b o u hI).2⟩,λb k hO=>?_,G.ob.2⟩;rcases v8 b k.1 k.2 hO with⟨_,n,hn⟩|⟨_,hn⟩
  ·exact G.ob.1 b _ hn
  ·exact G.ob.1 b _ hn
 have v5:∀b y n,b<w.heap.size->On b=some (y,n)->∃n',g.O b=some (y,n'):=λb y n U hO=>by
  rcases v8 b y n hO with⟨rfl,m,hm⟩|⟨hy,hm⟩
  ·grind
  ·obtain⟨n',xT⟩:=V.own b y n U hm
   grind
 --names whose meaning v1 changed are new
 let ch:=(μ.filter λp=>!(hs.any (·.1.beq p.1))).map (·.2)
 have hch:∀k∈ch,st.fr k=true:=λk hk=>by
  obtain⟨p,hp,rfl⟩:=jW.1 hk;rw[wU]at hp;have N:hs.any (·.1.beq p.1)=false:=by simpa using hp.2
  rcases x3 p hp.1 with h1|h1|h1
  ·obtain⟨n,hn,e⟩:=uX.1 h1;have:n=p.1:=by simpa using e
   rw[←this,u4 n hn]at N;simp at N
  all_goals grind
 have hρn:∀k,k∉ch->ρn k=g.ρ k:=λk hk=>by
  simp only[ρn];cases U:bwd μ k with
  |none=>rfl
  |some n=>
   have hf:=(zm8 hμ).2 U;simp only;split
   ·rename_i ho;have hm:=zis U;rcases x3 (n,k) hm with h1|h1|h1
    ·obtain⟨m,k5,e⟩:=uX.1 h1;have:m=n:=by simpa using e
     grind
    ·simp_all
    ·exact absurd (jW.2 ⟨(n,k),wU.2 ⟨hm,by grind⟩,rfl⟩) hk
   ·rfl
 have k4:∀t x,lk st.t t=some x->∀k∈ch,x.fr k=true:=λt x hx k hk=>zjp (by simp_all[St.fr]) hx
 have v4:∀n B,lk st.h n=some B->∀k∈ch,B.fr k=true/\n≠k:=λn B J k hk=>zcX (by simp_all[St.fr]) J
 have hX:∀t x,lk st.t t=some x->RV I' ρn x (a.tmps.getD t undef):=λt x hx=>((hr.tmps t x hx).renameL (k4 t x hx) hρn).mono V.I
 have x1:Ext C ⟨ρn,I',On⟩ w':=by
  refine⟨Im.le_trans hr.ext.I V.I,V.os.trans hr.ext.os,V.tape.trans hr.ext.tape,V.output.trans hr.ext.output,jT hr.ext.drawn V.drawn,jT hr.ext.size V.size,λb U hn ho=>?_,λb y n U hO=>?_⟩
  ·obtain⟨p1,p2⟩:=hr.ext.keep b U hn ho
   obtain⟨q1,q2⟩:=H b (w6 U hr.ext.size) (λn xT=>by
    obtain⟨k,h1,_⟩:=(u2 b n).1 xT;exact hn (hr.ext.okb b k h1))
   simp_all
  ·obtain⟨n',xT⟩:=v5 b y n (w6 U hr.ext.size) hO;exact hr.ext.own b y n' U xT
 have k3:Dfs C ⟨ρn,I',On⟩ a.defers w':=by
  obtain⟨D,p1,hn,p2⟩:=hr.defers
  grind[Dfs]
 have j4:∀n∈keys Z,ρn ((fwd μ n).getD 0)=ρ' n:=λn hn=>by
  obtain⟨p,hp,rfl⟩:=jW.1 hn;obtain⟨k,hk⟩:=wY.1 (x4 p hp).1;simp only[hk,vR,ρn,(zm8 hμ).1 hk];rw[j6 (uX.2 ⟨p,hp,by simp⟩)]
 have v3:∀k B,lk (outB μ Z++(zfM μ Z hs++st.h)) k=some B->yP C ⟨ρn,I',On⟩ w' k B:=λk B J=>by
  rw[zcF]at J;cases w2:lk (outB μ Z) k with
  |some B1=>
   simp only[w2]at J;injection J with J;subst J;obtain⟨n,B2,h1,N,rfl⟩:=zpy hμ (λp hp=>(x4 p hp).1) w2;have j3:∃p∈Z,p.1=n/\p.2=B2:=⟨_,zsA N,rfl,rfl⟩;obtain⟨p,hp,rfl,rfl⟩:=j3;have hC:Z.any (·.1.beq p.1)=true:=zjG.2 ⟨_,N⟩;refine zjF (C:=C0 0 dc ⟨ρc,g.I,Oc⟩ w) (g:=⟨ρ',I',O'⟩) (n:=p.1) (L:=keys Z) (G.blk p.1 p.2 N) (x4 p hp).2 rfl ?_ (λx v hx hv=>zsy (L:=keys Z) j4 hx hv) (λb U=>?_)
   ·grind[zm8]
   ·have:=k7 b p.1 k U h1;exact⟨this,x1.okb b k this⟩
  |none=>
   simp only[w2]at J;rw[zcF]at J;cases j2:lk (zfM μ Z hs) k with
   |some B1=>
    grind[zgl,yP]
   |none=>
    simp only[j2]at J;have h0:=hr.sat.blk k B J
    --k is none of those handed over
    have hW:∀b,g.O b=some (C.d,k)->∀n,Oc b≠some (dc,n):=λb U n hn=>by
     obtain⟨k',h1,N⟩:=(u2 b n).1 hn;rw[U]at h1;injection h1 with h1;injection h1 with _ h1;subst h1;have hf:=(zm8 hμ).2 N
     have w9:¬∃B,lk Z n=some B:=λho=>by
      obtain⟨B2,x0⟩:=zm9 hf ho;rw[w2]at x0;simp at x0
     have v2:¬∃B,lk hs n=some B:=λho=>by
      have hU:lk Z n=none:=by
       cases hc:lk Z n with
       |none=>rfl
       |some x=>exact absurd ⟨x,hc⟩ w9
      obtain⟨B2,x0⟩:=zkL hf ho hU;rw[j2]at x0;simp at x0
     rcases x3 (n,k) (zis N)with h1|h1|h1
     ·obtain⟨m,k5,e⟩:=uX.1 h1;have:m=n:=by simpa using e
      subst this;exact v2 (zjG.1 (u4 m k5))
     ·exact v2 (zjG.1 h1.1)
     ·have:=h1.2;simp[St.fr]at this;exact(zcX this.2 J).2 rfl
    have v0:k∉ch:=λhk=>(v4 k B J k hk).2 rfl
    refine h0.held V.I (λb U hO=>H b U (hW b hO)) (hρn k v0) (λx v hx hv=>hv.renameL hx hρn) (λk' v0=>(v4 k B J k' v0).1) ?_;intro j on hQ;subst hQ;obtain⟨h1,N,h3,h4,h5⟩:=h0;refine⟨h1,N,h3,λb n hO=>?_,N j on _ _ _ _ _ _ h5 V.I (λb U hy=>H b U (λn hn=>?_)) V.os V.tape V.output V.drawn V.size x2⟩
    ·rcases wD b w.heap.size with hl|hl
     ·obtain⟨n',xT⟩:=v5 b C.d n hl hO;exact h4 b n' xT
     ·have:=hr.ext.size;omega
    grind
 have hv2:RV I' ρn (r.ren μ) v:=by
  grind[zsy]
 refine⟨v,⟨ρn,I',On⟩,hY,?_⟩;show Rel C (zbP st μ hs Z dst r) ⟨ρn,I',On⟩ (a.put dst v) w';cases dst with
 |none=>exact⟨hr.size,k3,hX,⟨x2.1,x2.2,v3⟩,x1⟩
 |some d=>
  refine⟨by simp[Act.put,hr.size],k3,λt y hy=>?_,⟨x2.1,x2.2,v3⟩,x1⟩;rw[zaT (by rw[hr.size];simpa[dOk]using hd)]
  grind[zbP,consT,yq,beqF]
def zhu{P:Program}{C:Ctx}{st:St}{E:Ending->Value->Prop}{dst:Option Tmp}{ty:TypeId}{fop:Operand}{args:Array Operand}{ts:Array TypeId}{f:FuncId}{caps xs as:List AV}{hs Z:List (Nat×Blk)}{kp:List Nat}{r:AV}
 (μ:List (Nat×Nat))(h:FnR P f as hs kp E r Z)(hf:ev st fop=some (.fn f caps))(hx:evs st args.toList=some xs)(hμ:biOk μ=true)(H:LeL (xs++caps) (as.map (AV.ren μ)))(G:as.all (AV.okN (keys hs))=true)(xT:r.okN (keys Z)=true)
 (x4:zaN st μ (keys hs) hs)(U:∀p∈Z,(fwd μ p.1).isSome=true/\p.2.okNB (keys Z)=true)(N:∀p∈μ,kp.any (·.beq p.1)=true\/(hs.any (·.1.beq p.1)=true/\Z.any (·.1.beq p.1)=false)\/(hs.any (·.1.beq p.1)=false/\st.fr p.2=true))
 (x3:∀n∈kp,hs.any (·.1.beq n)=true)(hd:dOk C.n dst=true){g:Gh}{a:Act}{w:World}(hr:Rel C st g a w):
 ∃A,(∀pos af gd,(execOp a.eval {dst:=dst,op:=.call {callee:=.value fop,args:=args,argTypes:=ts},type:=ty,pos:=pos,after:=af,guard:=gd}).run P w=.ok (.enter f A) w)∧
  Calls P f A w λe w'=>∃v g',E e v/\Rel C (zbP st μ hs Z dst r) g' (a.put dst v) w':=by
 obtain⟨us,e,hl,hu⟩:=zcY (yA hr hf);have V:=zeQ hr hx;have J:RVL g.I g.ρ (as.map (AV.ren μ)) (args.toList.map a.eval++us):=H.rvl (V.append ⟨hl,hu⟩);refine⟨_,λpos af gd=>?_,zn4 (T:=Calls P f) (λh hm=>Calls.mono h hm) μ h.2 hμ G xT x4 U N x3 hd hr J⟩;have e1:(args.toList.map a.eval++us).toArray=args.map a.eval++us.toArray:=by simp_all
 simp only[execOp,resolve,e,Deferred.ofValue,jP,jU,jI,invoke,zV h.1,e1];simp
def zsB{P:Program}{C:Ctx}{ops:Array Oper}{st:St}{Q:Exit->St->Prop}{rest:List Oper}{dst:Option Tmp}{ty:TypeId}{pos:String}{af:Array Edge}{fop:Operand}{args:Array Operand}{ts:Array TypeId}{f:FuncId}{caps xs as:List AV}{hs Z:List (Nat×Blk)}{kp:List Nat}{r:AV}
 (μ:List (Nat×Nat))(h:FnO P f as hs kp r Z)(hf:ev st fop=some (.fn f caps))(hx:evs st args.toList=some xs)(hμ:biOk μ=true)(T:LeL (xs++caps) (as.map (AV.ren μ)))(N:as.all (AV.okN (keys hs))=true)(J:r.okN (keys Z)=true)
 (H:zaN st μ (keys hs) hs)(V:∀p∈Z,(fwd μ p.1).isSome=true/\p.2.okNB (keys Z)=true)(U:∀p∈μ,kp.any (·.beq p.1)=true\/(hs.any (·.1.beq p.1)=true/\Z.any (·.1.beq p.1)=false)\/(hs.any (·.1.beq p.1)=false/\st.fr p.2=true))
 (G:∀n∈kp,hs.any (·.1.beq n)=true)(hd:dOk C.n dst=true)(hq:Ex P C ops rest (zbP st μ hs Z dst r) Q):
 Ex P C ops ({dst:=dst,op:=.call {callee:=.value fop,args:=args,argTypes:=ts},type:=ty,pos:=pos,after:=af,guard:=none}::rest) st Q:=λg a w hr=>
 wpListIn_plain rfl λK hK=>zaz<|by
 obtain⟨A,e2,h0⟩:=zhu (dst:=dst) (ty:=ty) (ts:=ts) μ h.r hf hx hμ T N J H V U G hd hr;unfold wp1;rw[e2];refine Calls.mono h0 ?_
 rintro e w'⟨v,g',rfl,E⟩
 exact⟨v,rfl,hK _ _ (hq g' _ w' E)⟩
end Go.Rse
namespace Go.Rse
open Go Go.RowKit
def zeW{I:Im}{α:Type}{enc:α->List AV}{l:List α}{s:Nat}{xs:List Value}(hs:∀(i:Nat)x,l[i]? =some x->(enc x).length=s)(hl:xs.length=l.length*s)
 (h:∀(i:Nat)x(j:Nat)c v,l[i]? =some x->(enc x)[j]? =some c->xs[i*s+j]? =some v->RV I noNames c v)(Z:0<s):RVL I noNames (l.flatMap enc) xs:=by
 refine⟨by rw[hl,zJ l hs],λj c v V hv=>?_⟩;have U:j<l.length*s:=by rw[←zJ l hs];exact(j5.1 V).1
 have T:j/s<l.length:=v7 (by rw[u9];exact U);have N:j/s*s+j%s=j:=by rw[u9];exact vH j s
 have J:j%s<s:=xE _ Z;have H:=jB T
 grind[zdI]
def zna{α:Type}{enc:α->List AV}{s:Nat}(he:∀x,(enc x).length=s)(l l2:List α)(i:Nat)(V:i+l2.length<=l.length):
 (l.take i++l2++l.drop (i+l2.length)).flatMap enc=setAt (l.flatMap enc) (i*s) (l2.flatMap enc):=by
 have h1:(l.take i).flatMap enc=(l.flatMap enc).take (i*s):=by
  have Z:((l.take i).flatMap enc).length=i*s:=by rw[zJ _ (λ_ x _=>he x),jO,Nat.min_eq_left (by omega)]
  have:l.flatMap enc=(l.take i).flatMap enc++(l.drop i).flatMap enc:=by rw[←xZ,wB]
  rw[this,wX (Nat.le_of_eq Z.symm),wC (Nat.le_of_eq Z)]
 have U:∀m,m<=l.length->(l.drop m).flatMap enc=(l.flatMap enc).drop (m*s):=λm hm=>by
  have Z:((l.take m).flatMap enc).length=m*s:=by rw[zJ _ (λ_ x _=>he x),jO,Nat.min_eq_left hm]
  have:l.flatMap enc=(l.take m).flatMap enc++(l.drop m).flatMap enc:=by rw[←xZ,wB]
  rw[this,vT (Nat.le_of_eq Z.symm),wH (Nat.le_of_eq Z)];rfl
 grind[setAt,zJ,Nat.add_mul]
section
variable{P:Program}{C:Ctx}{st:St}{ty:TypeId}
def Rel.row_write{g:Gh}{a:Act}{w:World}(hr:Rel C st g a w){α:Type}{enc:α->List AV}{l l2:List α}{E:TypeId}{k s i b:Nat}{vs:List Value}(hk:lk st.h k=some (.row enc l E s))(he:∀x,(enc x).length=s)(xT:0<s)
 (V:RVL g.I noNames (l2.flatMap enc) vs)(T:∀u∈vs,u.oneCell'=true)(N:i+l2.length<=l.length)(hb:y9 (g.ρ k)=some b):
 ∃w',(storeCells ⟨b,i*s,none⟩ vs 0).run P w=.ok () w'/\Rel C (putH st k (.row enc (l.take i++l2++l.drop (i+l2.length)) E s)) g a w':=by
 obtain⟨xs,hw,h1,h2,h3⟩:=hr.sat.blk k _ hk;rcases hw.2 with⟨hv,_⟩|⟨b',cap,cur,hv,x4,hh,J,x3,H,x2⟩
 ·simp_all[y9]
 ·have:b'=b:=by rw[hv]at hb;simpa[y9]using hb
  subst this;have x1:vs.length=l2.length*s:=by rw[V.1,zJ l2 (λ_ x _=>he x)]
  have v9:l.length*s<=cap*s:=jX s J;have x0:i*s+l2.length*s<=l.length*s:=by rw[←Nat.add_mul];exact jX s N
  have w9:=run_storeCells_at (P:=P) b' (i*s) E vs 0 cur w hh (by omega) T;have U:(l.take i++l2++l.drop (i+l2.length)).length=l.length:=by simp;omega
  refine⟨_,w9,hr.modify (h3 b' (by rw[hv];rfl)).1 (h3 b' (by rw[hv];rfl)).2 zc0 (jE _) ?_⟩;have w2:cur.toList.length=cap*s:=by simpa using H
  have G:=zeW h1 hw.1 h2 xT;have Z:=G.setAt V (i*s) (by rw[zJ l h1,←V.1,x1];exact x0);rw[←zna he l l2 i N]at Z
  have hx:List.take (l.length*s) (cur.toList.take (i*s+0)++vs++cur.toList.drop (i*s+0+vs.length))=xs.take (i*s)++vs++xs.drop (i*s+vs.length):=by
   rw[←x2];apply uI;intro j;simp only[vN,wI,wM,jC,jO,w2,wV];rw[show min (i*s) (cap*s)=i*s by omega,show min (l.length*s) (cap*s)=l.length*s by omega,show min (i*s) (l.length*s)=i*s by omega];by_cases q0:j<l.length*s
   ·rw[j6 q0];by_cases q1:j<i*s
    ·simp[q1,show j<i*s+vs.length by omega,q0]
    ·by_cases q2:j<i*s+vs.length
     ·simp[q1,q2]
     ·simp[q2,show i*s+vs.length+(j-(i*s+vs.length))<l.length*s by omega]
   ·rw[j7 q0];rw[j7 (by omega)];rw[j7 (by omega)]
  refine⟨xs.take (i*s)++vs++xs.drop (i*s+vs.length),⟨?_,.inr ⟨b',cap,(cur.toList.take (i*s+0)++vs++cur.toList.drop (i*s+0+vs.length)).toArray,by rw[hv,U],x4,setRow_heap w b' cur _ E _ hh,by rw[U];exact J,x3,by simp;omega,by rw[U];simpa using hx⟩⟩,λi x h=>he x,zbw (λi x h=>he x) Z,h3⟩
  grind
def zeX{α:Type}{enc:α->List AV}{l:List α}{E T:TypeId}{x y:Operand}{k s i:Nat}{u:AV}{ag:Bool}(x':α)(hx:ev st x=some (.ptr k s i 0))(hk:lk st.h k=some (.row enc l E s))(he:∀x,(enc x).length=s)(N:0<s)
 (hi:i<l.length)(hy:ev st y=some u)(hu:u.cl=enc x')(hp:zjs u=true)(J:scL (enc x')=true)(hnm:AV.nm.nmL (enc x')=true)(ht:tyOk P T ag s=true):yz P C (.store T x y) ty none st (putH st k (.row enc (l.set i x') E s)):=λg a w pos af gd hr K hK=>by
 obtain⟨b,hb,e⟩:=zah (yA hr hx);have Z:=zjt (yA hr hy) hp;rw[hu]at Z;have H:RVL g.I noNames ([x'].flatMap enc) (a.eval y).cells.toList:=by simpa using Z.forget hnm
 have V:∀v∈(a.eval y).cells.toList,v.oneCell'=true:=λv hv=>by
  obtain⟨q,hq⟩:=jQ.1 hv;have U:q<(enc x').length:=by rw[←Z.1];grind
  exact(zbN (Z.2 q _ v (jB U) hq) (zfk J (jB U))).2
 obtain⟨w',h1,h2⟩:=hr.row_write (P:=P) (i:=i) (l2:=[x']) hk he N H V (by simp;omega) hb
 have hl:l.take i++[x']++l.drop (i+[x'].length)=l.set i x':=by
  rw[List.set_eq_take_append_cons_drop,j6 hi];simp
 rw[hl]at h2;simp only[wp1,execOp,Instr.storeAt,e,Instr.sureAddr,jP,jU,jI,storeVar,yZ ht,vN];have G:(a.eval y).cells.size=s:=by have:=Z.1;simp_all
 rw[j7 (by simp[G])];simp only[h1,jI,zbL];exact hK _ _ _ h2
def zx{α:Type}{enc:α->List AV}{l:List α}{E t:TypeId}{x y:Operand}{k s:Nat}{kk:IntKind}{i:Int}{ag:Bool}(hx:ev st x=some (.own k))(hk:lk st.h k=some (.row enc l E s))(V:ev st y=some (.int kk i))(ht:slOk P t E=true)(hE:tyOk P E ag s=true)
 (h0:0<=i)(h1:i<=l.length):Pur P C (.slice t x (some y) none none) ty st (.sub k s i.toNat (l.length-i.toNat)):=λg a w dst pos af gd hr=>by
 obtain⟨xs,U,_⟩:=hr.sat.blk k _ hk;have ek:=zaa (yA hr hx);have ey:=y5 (yA hr V)
 have key:∀(A:Option Addr)(c:Nat),g.ρ k=.slice A l.length c->(l.length≠0->∃b,A=some ⟨b,0,none⟩)->l.length<=c→
  ∃v,(execOp a.eval {dst:=dst,op:=.slice t x (some y) none none,type:=ty,pos:=pos,after:=af,guard:=gd}).run P w=.ok (.value v) w/\RV g.I g.ρ (.sub k s i.toNat (l.length-i.toNat)) v:=λA c hv T H=>by
  refine⟨.slice (if c=i.toNat then A else A.map (·.add (i.toNat*s))) (l.length-i.toNat) (c-i.toNat),?_,.sub k s _ _ _ _ (λhm=>?_)⟩
  ·rw[hv]at ek
   have:(Instr.sliceBounds true l.length c (some (.int kk i)) none none).run P w=.ok (i.toNat,l.length,c) w:=by
    simp[Instr.sliceBounds,Instr.sliceBound,asIntOf,h0,h1]
   simp[execOp,Instr.sliceAt,Instr.slice,run_underlying (zh ht),←ek,ey,this,yZ hE]
  ·obtain⟨b,N⟩:=T (by omega);refine⟨b,by rw[hv,N];rfl,?_⟩
   grind[zP]
 rcases U.2 with⟨hv,J⟩|⟨b,cap,cur,hv,_,_,Z,_⟩
 ·grind
 ·exact key _ cap hv (λ_=>⟨b,rfl⟩) Z
def zuD{α:Type}{enc:α->List AV}{l:List α}{E t:TypeId}{x:Operand}{k s i m:Nat}{z:Value}{bytes:Nat}(z':α)(hx:ev st x=some (.sub k s i m))(hk:lk st.h k=some (.row enc l E s))(he:∀x,(enc x).length=s)(Z:0<s)(ht:slOk P t E=true)(hi:zK P E z s bytes)
 (hz:cvL z.cells.toList=some (enc z'))(H:scL (enc z')=true)(hnm:AV.nm.nmL (enc z')=true)(x2:i+m=l.length):yz P C (.call {callee:=.builtin .clear,args:= #[x],argTypes:= #[t]}) ty none st (putH st k (.row enc (l.take i++List.replicate m z') E s)):=λg a w pos af gd hr K hK=>by
 have V:=yA hr hx;generalize ev':a.eval x=v at V;cases V with
 |sub _ _ _ _ c A h=>
 by_cases hm:m=0
 ·subst hm
  have e0:(execOp a.eval {dst:=none,op:=.call {callee:=.builtin .clear,args:= #[x],argTypes:= #[t]},type:=ty,pos:=pos,after:=af,guard:=gd}).run P w=.ok (.value (.tuple #[])) w:=by
   cases A<;>simp[execOp,resolve,invoke,builtin,Builtin.clear_,ev',run_underlying (zh ht)]
  unfold wp1;rw[e0];refine hK _ w g ?_;have e1:l.take i++List.replicate 0 z'=l:=by simp_all
  rw[e1];refine⟨hr.size,hr.defers,hr.tmps,⟨hr.sat.im,hr.sat.ob,λk' B N=>?_⟩,hr.ext⟩;simp only[putH,yq]at N;cases J:k.beq k'<;>simp[J]at N
  ·exact hr.sat.blk k' B N
  ·have:k=k':=by simpa using J
   subst this;subst N;exact hr.sat.blk k _ hk
 ·obtain⟨b,J,e⟩:=h hm;obtain⟨inf,i1,i2,i3,i4,i5⟩:=hi;obtain⟨x1,G⟩:=zgi (I:=g.I) (ρ:=noNames) hz
  have xT:∀(q:Nat)(u:Value),(Builtin.zeroCells z.cells m).toList[q]? =some u->z.cells.toList[q%s]? =some u:=λq u hu=>by
   grind[Builtin.zeroCells,Nat.mod_lt]
  have x4:RVL g.I noNames ((List.replicate m z').flatMap enc) (Builtin.zeroCells z.cells m).toList:=by
   refine zeW (λ_ x _=>he x) (by rw[Array.length_toList,size_zeroCells,i5];simp) (λq x j c v hx hc hv=>?_) Z
   grind[Nat.add_mul_mod_self_right,Nat.mod_eq_of_lt]
  have U:∀u∈(Builtin.zeroCells z.cells m).toList,u.oneCell'=true:=λu hu=>by
   obtain⟨q,hq⟩:=jQ.1 hu;have hj:=xT q u hq;have T:q%s<(enc z').length:=by grind
   exact(zbN (G _ _ u (jB T) hj) (zfk H (jB T))).2
  obtain⟨w',h1,h2⟩:=hr.row_write (P:=P) (i:=i) (l2:=List.replicate m z') hk he Z x4 U (by simp;omega) J
  have e2:l.take i++List.replicate m z'++l.drop (i+(List.replicate m z').length)=l.take i++List.replicate m z':=by
   simp;omega
  rw[e2]at h2
  have e0:(execOp a.eval {dst:=none,op:=.call {callee:=.builtin .clear,args:= #[x],argTypes:= #[t]},type:=ty,pos:=pos,after:=af,guard:=gd}).run P w=.ok (.value (.tuple #[])) w':=by
   obtain⟨m',rfl⟩:∃m',m=m'+1:=⟨m-1,by omega⟩;have x3:=h1;simp[execOp,resolve,invoke,builtin,Builtin.clear_,ev',e,run_underlying (zh ht),zeroValue,typeInfo,i1,i2,x3]
  unfold wp1;rw[e0];exact hK _ w' g h2
end
end Go.Rse
namespace Go.Rse
open Go Go.RowKit
def zpx.mk{P:Program}{C:Ctx}{rv:List ResultVar}{r:AV}{vs:List Value}{cs:List AV}{Z:List (Nat×Blk)}{e:Exit}{st:St}{ts:List (Nat×AV)}(he:e=.normal\/e=.ret)(hi:Imp C st ⟨ts,(kN,.hold vs cs)::Z⟩)(hr:RetVs P ⟨ts,(kN,.hold vs cs)::Z⟩ rv r):zpx P C rv r vs cs Z e st:=
 ⟨he,ts,hi,hr⟩
theorem zpx.imp{P:Program}{C:Ctx}{rv:List ResultVar}{r:AV}{vs:List Value}{cs:List AV}{Z:List (Nat×Blk)}{e:Exit}{st st':St}(hi:Imp C st st')(h:zpx P C rv r vs cs Z e st'):zpx P C rv r vs cs Z e st:=
 ⟨h.1,let⟨ts,h1,V⟩:=h.2;⟨ts,hi.trans h1,V⟩⟩
section
variable{P:Program}{C:Ctx}{st:St}{ty:TypeId}
def zuE{ops:Array Oper}{Q:Exit->St->Prop}{rest:List Oper}{d:Nat}{op:Op}{pos:String}{af:Array Edge}(φ:Bool->Prop)
 (hs:∀(g:Gh)(a:Act)(w:World)dst pos af gd,Rel C st g a w->∃b,(execOp a.eval {dst:=dst,op:=op,type:=ty,pos:=pos,after:=af,guard:=gd}).run P w=.ok (.value (.bool b)) w/\φ b)(Z:d.blt C.n=true)
 (h:∀b,φ b->Ex P C ops rest ⟨(d,.bool b)::st.t,st.h⟩ Q):
 Ex P C ops ({dst:=some d,op:=op,type:=ty,pos:=pos,after:=af,guard:=none}::rest) st Q:=λg a w hr=>
 wpListIn_plain rfl λK V=>zaz<|by
  obtain⟨b,h1,U⟩:=hs g a w (some d) pos af none hr;unfold wp1;rw[h1];refine V _ _ (h b U g _ w ?_);exact hr.addSt (d:=some d) (nb:=none) (Add.refl _ g w) (by simpa[dOk]using Z) rfl (.bool b) hr.sat.im hr.sat.ob (λ_ _ h=>by cases h)
def Ex.eqNil{α:Type}{enc:α->List AV}{l:List α}{ops:Array Oper}{Q:Exit->St->Prop}{rest:List Oper}{d:Nat}{t E:TypeId}{x:Operand}{yt:TypeId}{pos:String}{af:Array Edge}(hx:ev st x=some (.sl enc l))(ht:slOk P t E=true)(Z:d.blt C.n=true)
 (h:∀b,(b=true->l=[])->Ex P C ops rest ⟨(d,.bool b)::st.t,st.h⟩ Q):
 Ex P C ops ({dst:=some d,op:=.binOp .eql t x (.const (.slice none 0 0)) yt,type:=ty,pos:=pos,after:=af,guard:=none}::rest) st Q:=
 zuE (λb=>b=true->l=[]) (λg a w dst pos af gd hr=>by
  obtain⟨A,b,o,s',c,vs,e,V,_⟩:=zcZ (yA hr hx);have e0:a.eval (.const (.slice none 0 0))=.slice none 0 0:=rfl;have he:∀A:Option Addr,(Op.equal t (.slice A l.length c) (.slice none 0 0)).run P w=.ok A.isNone w:=λA=>run_equalIn_slice_nil w 9999 t E A l.length c (zh ht)
  refine⟨A.isNone,?_,λhn=>?_⟩
  ·simp[execOp,e,e0,eqGuard,binOp,he]
  ·cases A with
   |none=>
    cases l with
    |nil=>rfl
    |cons x r=>have:=V (by simp);simp at this
   |some A=>simp at hn) Z h
def zby{ops:Array Oper}{Q:Exit->St->Prop}{rest:List Oper}{dst:Option Tmp}{pos:String}{af:Array Edge}{fop:Operand}{args:Array Operand}{ts:Array TypeId}{f:FuncId}{caps xs as:List AV}{hs Z:List (Nat×Blk)}{kp:List Nat}{r:AV}
 (μ:List (Nat×Nat))(h:FnO P f as hs kp r Z)(hf:ev st fop=some (.fn f caps))(hx:evs st args.toList=some xs)(hμ:biOk μ=true)(T:LeL (xs++caps) (as.map (AV.ren μ)))(N:as.all (AV.okN (keys hs))=true)(J:r.okN (keys Z)=true)
 (H:zaN st μ (keys hs) hs)(V:(Z.all λp=>(fwd μ p.1).isSome&&p.2.okNB (keys Z))=true)
 (U:(μ.all λp=>kp.any (·.beq p.1)||(hs.any (·.1.beq p.1)&&!(Z.any (·.1.beq p.1)))||(!(hs.any (·.1.beq p.1))&&st.fr p.2))=true)
 (G:(kp.all λn=>hs.any (·.1.beq n))=true)(hd:dOk C.n dst=true)(hq:Ex P C ops rest (zbP st μ hs Z dst r) Q):
 Ex P C ops ({dst:=dst,op:=.call {callee:=.value fop,args:=args,argTypes:=ts},type:=ty,pos:=pos,after:=af,guard:=none}::rest) st Q:=by
 refine zsB μ h hf hx hμ T N J H (λp E=>?_) (λp E=>?_) (λn hn=>jF.1 G n hn) hd hq
 ·have:=jF.1 V p E;simpa using this
 ·have:=jF.1 U p E;simp only[wJ,jA,wL]at this;rcases this with(h1|h1)|h1
  ·exact .inl h1
  ·exact .inr (.inl h1)
  ·exact .inr (.inr h1)
end
end Go.Rse
namespace Go.Rse
open Go Go.RowKit
section
variable{P:Program}{C:Ctx}{st:St}{ty:TypeId}
def zy7{α:Type}{enc:α->List AV}{l:List α}{E t:TypeId}{x y:Operand}{k s:Nat}{kk:IntKind}{i:Int}{ag:Bool}{dst:Option Tmp}(hx:ev st x=some (.own k))(hk:lk st.h k=some (.row enc l E s))(hy:ev st y=some (.int kk i))(ht:slOk P t E=true)(hE:tyOk P E ag s=true)
 (h0:0<=i)(h1:i<=l.length)(hd:dOk C.n dst=true):yz P C (.slice t x none (some y) none) ty dst st {t:=consT dst (.own k) (clT k st.t),h:=(k,.row enc (l.take i.toNat) E s)::clH k st.h}:=λg a w pos af gd hr K hK=>by
 obtain⟨xs,hw,q1,q2,q3⟩:=hr.sat.blk k _ hk;have ek:=zaa (yA hr hx);have ey:=y5 (yA hr hy);have Z:(l.take i.toNat).length=i.toNat:=by simp;omega
 have key:∀(A A':Option Addr)(c:Nat),g.ρ k=.slice A l.length c->l.length<=c->(A'=if c=0 then A else A.map (·.add (0*s)))->yP C {ρ:=λn=>if n=k then .slice A' i.toNat c else g.ρ n,I:=g.I,O:=g.O} w k (.row enc (l.take i.toNat) E s)→
  wp1 P {dst:=dst,op:=.slice t x none (some y) none,type:=ty,pos:=pos,after:=af,guard:=gd} a w K:=λA A' c hv hc T hB=>by
  have e0:(execOp a.eval {dst:=dst,op:=.slice t x none (some y) none,type:=ty,pos:=pos,after:=af,guard:=gd}).run P w=.ok (.value (.slice A' i.toNat c)) w:=by
   rw[hv]at ek
   have:(Instr.sliceBounds true l.length c none (some (.int kk i)) none).run P w=.ok (0,i.toNat,c) w:=by
    simp[Instr.sliceBounds,Instr.sliceBound,asIntOf,h0,show i<=(c:Int)by omega]
   rw[T];simp[execOp,Instr.sliceAt,Instr.slice,run_underlying (zh ht),←ek,ey,this,yZ hE]
  unfold wp1;rw[e0];refine hK _ w _ (hr.modifyR (g':={ρ:=λn=>if n=k then .slice A' i.toNat c else g.ρ n,I:=g.I,O:=g.O}) (k:=k) (bo:=none) rfl (λn hn=>by simp[hn]) (λ_ _=>rfl) (λb h=>by simp at h) ⟨rfl,rfl,rfl,jE _,λ_ _ _=>rfl⟩ (jE _) hr.sat.ob hd (.own k _ _ _ (by simp)) hB)
 rcases hw.2 with⟨hv,N⟩|⟨b,cap,cur,hv,J,hh,H,G,U,xT⟩
 ·have V:i.toNat=0:=by omega
  refine key none none 0 (by rw[hv,N]) (by omega) (by simp) ⟨[],⟨by simp[V],.inl ⟨by simp[V],by simp[V]⟩⟩,λj x hx=>by simp[V]at hx,λj x j' c v hx=>by simp[V]at hx,λb hb=>by simp[y9]at hb⟩
 ·have x3:i.toNat*s<=l.length*s:=jX s (by omega);refine key (some ⟨b,0,none⟩) (some ⟨b,0,none⟩) cap hv H (by simp[zP]) ⟨xs.take (i.toNat*s),⟨by rw[Z];simp;rw[hw.1];omega,.inr ⟨b,cap,cur,by simp[Z],J,hh,by omega,G,U,?_⟩⟩,λj x hx=>?_,λj x j' c v hx hc hv=>?_,λb' x4=>?_⟩
  ·rw[Z,←xT,List.take_take];congr 1;omega
  ·rw[wI]at hx;split at hx
   ·exact q1 j x hx
   ·simp at hx
  ·rw[wI]at hx;split at hx
   ·rw[wI]at hv;split at hv
    ·exact q2 j x j' c v hx hc hv
    ·simp at hv
   ·simp at hx
  ·have:=q3 b' (by rw[hv];simpa[y9]using x4);exact this
end
end Go.Rse
namespace Go.Rse
open Go Go.RowKit
def zjH{P:Program}{f:FuncId}{as:List AV}{hs:List (Nat×Blk)}{n:Nat}{B:Blk}(n':Nat)(h:FnO P f as hs [] (.own n) [(n,B)])(hB:B.nm=true):FnO P f as hs [] (.own n') [(n',B)]:=by
 refine⟨h.1,λd ρ I O w args H U=>Calls.mono (h.2 d ρ I O w args H U) ?_⟩
 rintro e w'⟨v,ρ',I',O',rfl,Z,hv,hx,-⟩
 let ρ2:Nat->Value:=λk=>if k=n' then ρ' n else ρ' k
 let O2:Owns:=λb=>if O' b=some (d,n)then some (d,n')else O' b
 have G:∀b p,O2 b=some p->∃m,O' b=some (p.1,m):=λb p N=>by
  simp only[O2]at N;split at N
  ·rename_i e;injection N with N;subst N;exact⟨n,e⟩
  ·exact⟨p.2,N⟩
 have E:Ext (C0 0 d ⟨ρ,I,O⟩ w) ⟨ρ2,I',O2⟩ w':=by
  refine⟨hx.I,hx.os,hx.tape,hx.output,hx.drawn,hx.size,λb J hn ho=>?_,λb y m J hy=>?_⟩
  ·obtain⟨p1,p2⟩:=hx.keep b J hn ho;refine⟨p1,?_⟩;have:O' b≠some (d,n):=λe=>hn (.inr ⟨n,by rw[←p2];exact e⟩)
   show(if O' b=some (d,n)then some (d,n')else O' b)=O b;rw[j7 this];exact p2
  ·obtain⟨m',xT⟩:=G b (y,m) hy;exact hx.own b y m' J xT
 refine⟨v,ρ2,I',O2,rfl,⟨λb o u hI=>?_,⟨λb k hO=>?_,Z.ob.2⟩,λk B' V=>?_⟩,?_,E,λk hk=>by simp at hk⟩
 ·obtain⟨p1,p2⟩:=Z.im b o u hI;have p2:O' b=none:=p2;exact⟨p1,by simp[O2,p2]⟩
 ·obtain⟨m,hm⟩:=G b k hO;exact Z.ob.1 b _ hm
 ·simp only[yq]at V;cases J:n'.beq k<;>simp[J]at V
  ·simp[lk]at V
  ·have:n'=k:=by simpa using J
   subst this;subst V;refine yP.move (Z.blk n B (by simp[yq])) hB rfl (by simp[ρ2]) (λb T=>?_);have T:O' b=some (d,n):=T;have h3:O2 b=some (d,n'):=by simp[O2,T]
   exact⟨h3,E.okb b n' h3⟩
 ·have:=zaa hv;cases hv;rename_i A m c h4;exact .own n' A m c (by simp[ρ2,h4])
end Go.Rse
namespace Go.Rse
open Go Go.RowKit
def zbz{P:Program}{b:Frame}{a:Act}{k:List Item}{cs:List Frame}{w:World}{c:Code}:step P (lone (b.atR a (.code (.scope c)::k)) cs w)=.next (lone (b.atR a (.code c::.inScope c::k)) cs w):=
 step_lone_go (by simp[stepG,stepG.exec,Frame.atR])
def zj9{P:Program}{b:Frame}{a:Act}{k:List Item}{cs:List Frame}{w:World}{c:Code}:step P (lone (b.atR a (.inScope c::k)) cs w)=.next (lone (b.atR a k) cs w):=
 step_lone_go (by simp[stepG,stepG.exec,Frame.atR])
def wpIn_scope{F:Fence}{n:Nat}{P:Program}{Q:Exit->Act->World->Prop}{a:Act}{w:World}{c:Code}(h:c.wpIn F n P (Exit.noGoto Q) a w):(Code.scope c).wpIn F n P Q a w:=by
 intro b k cs U T hr;have h0:(lone (b.atR a (.code (.scope c)::k)) cs w).fenced P F:=fenced_calm T hr rfl;obtain⟨e,a₁,w₁,V,Z⟩:=h b (.inScope c::k) cs U T hr;cases e with
 |normal=>exact⟨.normal,a₁,w₁,V,.head h0 zbz (StepsIn.trans Z (.one (fenced_calm T hr rfl) zj9))⟩
 |exit id=>
  have hx:exitTo id (.inScope c::k)=exitTo id k:=by simp[exitTo]
  exact⟨.exit id,a₁,w₁,V,λk' hk=>.head h0 zbz (Z.1 k' (by rw[hx];exact hk)),
   λN hk=>let⟨k₁,h1,J⟩:=Z.2 N (by rw[hx];exact hk);⟨k₁,h1,.head h0 zbz J⟩⟩
 |goto l=>exact V.elim
 |ret=>exact⟨_,a₁,w₁,V,.of_steps (.one h0 zbz) Z⟩
 |panic ch=>exact⟨_,a₁,w₁,V,.of_steps (.one h0 zbz) Z⟩
 |outgrown=>exact⟨_,a₁,w₁,V,.of_steps (.one h0 zbz) Z⟩
def noGo(Q:Exit->St->Prop):Exit->St->Prop
 |.goto _,_=>False
 |e,st=>Q e st
def X.scope{P:Program}{C:Ctx}{st:St}{Q:Exit->St->Prop}{c:Code}(h:X P C c st (noGo Q)):X P C (.scope c) st Q:=λg a w hr=>
 wpIn_scope (wpIn_mono (h g a w hr) λe a w⟨st,g,hr,q⟩=>by
  cases e<;>first
   |exact q.elim
   |exact⟨st,g,hr,q⟩)
end Go.Rse
namespace Go.Rse
open Go Go.RowKit
section
variable{P:Program}{C:Ctx}{st st':St}{ty:TypeId}
def yL{dst:Option Tmp}{op:Op}{x:AV}{nb:Option (Nat×Blk)}(hs:yy P C op ty st x nb)(V:dOk C.n dst=true)(hn:nbOk st nb=true):yz P C op ty dst st (Rse.addSt st dst x nb):=λg a w pos af gd hr K U=>
 hs g a w dst pos af gd hr K λv w' g' T N Z J=>U _ _ g' (hr.addSt T V hn N Z.1 Z.2 J)
theorem yz.imp{dst:Option Tmp}{op:Op}{st1:St}(hs:yz P C op ty dst st st1)(hi:Imp C st1 st'):yz P C op ty dst st st':=λg a w pos af gd hr K Z=>
 hs g a w pos af gd hr K λa' w' g' V=>let⟨g2,U⟩:=hi g' a' w' V;Z a' w' g2 U
def znb(P:Program)(C:Ctx)(ops:Array Oper)(i:Nat)(st st':St):Prop:=∃o,ops[i]? =some o/\o.guard=none/\yz P C o.op o.type o.dst st st'
def yp{ops:Array Oper}{i:Nat}{dst:Option Tmp}{op:Op}{pos:String}{af:Array Edge}(ho:ops[i]? =some {dst:=dst,op:=op,type:=ty,pos:=pos,after:=af,guard:=none})(hs:yz P C op ty dst st st'):znb P C ops i st st':=⟨_,ho,rfl,hs⟩
def HAll(P:Program)(C:Ctx)(ops:Array Oper)(sts:List St):List (Nat×Nat×Nat)->Prop
 |[]=>True
 |(p,i,q)::r=>(∃s s',sts[p]? =some s/\sts[q]? =some s'/\znb P C ops i s s')/\HAll P C ops sts r
def HAll.get{ops:Array Oper}{sts:List St}:∀{es:List (Nat×Nat×Nat)},HAll P C ops sts es->∀{p i q:Nat},(p,i,q)∈es->∃s s',sts[p]? =some s/\sts[q]? =some s'/\znb P C ops i s s'
 |(p',i',q')::r,h,p,i,q,hm=>by
  rcases wA.1 hm with e|hm
  ·injection e with e1 e2;injection e2 with e2 e3;subst e1;subst e2;subst e3;exact h.1
  ·exact HAll.get h.2 hm
def zsC(ops:Array Oper)(ds:List (List Bool))(es:List (Nat×Nat×Nat)):Bool:=
 (List.range ds.length).all λp=>match ds[p]? with
  |none=>false
  |some l=>(l.length==ops.size)&&(l.all id||(!(Region.ready .any ops l.toArray).isEmpty&&(Region.ready .any ops l.toArray).all λi=>es.any λe=>e.1==p&&(e.2.1==i&&ds[e.2.2]? ==some (l.set i true))))
def zaB(l:List Bool):Nat:=(l.filter λb=>!b).length
def zgm:∀{l:List Bool}{i:Nat},l[i]? =some false->zaB l=zaB (l.set i true)+1
 |b::l,0,h=>by simp at h;subst h;simp[zaB]
 |b::l,i+1,h=>by
  have:=zgm (l:=l) (i:=i) (by simpa using h);unfold zaB at*
  cases b<;>simp[uM]at*<;>omega
def zeY:∀{l:List Bool},zaB l=0->l.all id=true
 |[],_=>rfl
 |b::l,h=>by
  unfold zaB at h;cases b
  ·simp[uM]at h
  ·simp only[uM,kG,Bool.false_eq_true,if_false]at h;simpa using zeY (l:=l) h
def drawN{ops:Array Oper}{Q:Exit->St->Prop}{sts:List St}{ds:List (List Bool)}{es:List (Nat×Nat×Nat)}(hc:zsC ops ds es=true)(hs:HAll P C ops sts es)(x0:ds.length=sts.length)(H:∀(p:Nat)l s,ds[p]? =some l->l.all id=true->sts[p]? =some s->Q .normal s):
 ∀(n p:Nat)(l:List Bool)(s:St)(g:Gh)(a:Act)(w:World),ds[p]? =some l->sts[p]? =some s->zaB l=n->Rel C s g a w->wpAnyIn C.F 0 P .any ops (lift C Q) n l.toArray a w:=by
 have V:∀p l,ds[p]? =some l->l.length=ops.size/\(l.all id=true\/(Region.ready .any ops l.toArray≠[]/\∀i∈Region.ready .any ops l.toArray,∃q,(p,i,q)∈es/\ds[q]? =some (l.set i true))):=λp l N=>by
  have h1:=jF.1 hc p (by simpa using(j5.1 N).1);rw[N]at h1;simp only[jA,beq_iff_eq,wJ,wL]at h1;refine⟨h1.1,?_⟩;rcases h1.2 with h|⟨U,E⟩
  ·exact .inl h
  ·refine .inr ⟨λe=>by rw[e]at U;simp at U,λi hi=>?_⟩;have h4:=jF.1 E i hi;obtain⟨⟨p',i',q⟩,hm,h5⟩:=uX.1 h4;simp only[jA,beq_iff_eq]at h5;obtain⟨e1,e2,e3⟩:=h5;subst e1;subst e2;exact⟨q,hm,e3⟩
 intro n
 induction n with
 |zero=>
  intro p l s g a w N J hn hr;have T:=zeY hn;refine⟨uY.2 λi hi=>?_,s,g,hr,H p l s N T J⟩;obtain⟨h1,U,_⟩:=zO.1 hi;have Z:i<l.length:=by rw[(V p l N).1];exact h1
  have E:=jF.1 T _ (uZ Z);simp[jM,Z]at U E;rw[E]at U;cases U
 |succ n ih=>
  intro p l s g a w N J hn hr;obtain⟨hl,xT⟩:=V p l N
  have G:¬l.all id=true:=λh=>by
   have:zaB l=0:=by
    unfold zaB;rw[uO.2 (λb hb=>by have:=jF.1 h b hb;simpa using this)];rfl
   omega
  rcases xT with h|⟨x4,x3⟩
  ·exact absurd h G
  ·refine⟨λe=>absurd e x4,λi hi=>?_⟩;obtain⟨q,hm,hq⟩:=x3 i hi;obtain⟨s1,s2,h1,U,o,ho,hg,x2⟩:=hs.get hm;rw[J]at h1;injection h1 with h1;subst h1;obtain⟨r1,r2,_⟩:=zO.1 hi;have Z:i<l.length:=by rw[hl];exact r1
   have x1:l[i]? =some false:=by
    simp[jM,Z]at r2;rw[jB Z,r2]
   simp only[wpOpIn,ho];obtain⟨dst,op,ty,pos,af,gd⟩:=o;simp only at hg;subst hg;have hw:Region.wanted {dst:=dst,op:=op,type:=ty,pos:=pos,after:=af,guard:=none} (yielded ops a.tmps)=true:=rfl;rw[j6 hw];refine zaz (x2 g a w pos af none hr _ λa' w' g' h'=>?_);have e:l.toArray.setIfInBounds i true=(l.set i true).toArray:=by simp
   rw[e];exact ih q (l.set i true) s2 g' a' w' hq U (by have:=zgm x1;omega) h'
def X.drawN{rid:Nat}{l:List Oper}{Q:Exit->St->Prop}(sts:List St)(ds:List (List Bool))(es:List (Nat×Nat×Nat))(hm:P.follows .mixedOrders=true){s0:St}(h0:ds[0]? =some (List.replicate l.length false))(T:sts[0]? =some s0)(hi:Imp C st s0)(J:zsC l.toArray ds es=true)(V:ds.length=sts.length)
 (hs:HAll P C l.toArray sts es)(U:∀(p:Nat)d s,ds[p]? =some d->d.all id=true->sts[p]? =some s->Q .normal s):X P C (.region rid l.toArray true) st Q:=λg a w hr=>by
 refine wpIn_region_any hm ?_;obtain⟨g1,Z⟩:=hi g a w hr;have N:Rel C s0 g1 a w.drew:=Z.add (nk:=none) (d:=none) (x:=.any) (v:=.nilIface) ⟨Im.le_refl _,λ_ _=>rfl,λ_ _=>rfl,Grow.drew w⟩ (λk h=>by simp at h) (λt h=>by simp at h) (.any _) Z.sat.im Z.sat.ob;have h:=Rse.drawN J hs V U (zaB (List.replicate l.length false)) 0 _ s0 g1 a w.drew h0 T rfl N;have e1:zaB (List.replicate l.length false)=l.toArray.size:=by simp[zaB]
 have e2:(List.replicate l.length false).toArray=Array.replicate l.toArray.size false:=by simp
 rw[e1,e2]at h;exact h
end
end Go.Rse
namespace Go.Rse
open Go Go.RowKit
section
variable{P:Program}{C:Ctx}{st:St}{ty:TypeId}
def zbo{α:Type}(enc:α->List AV)(E s b k E0:Nat)(ht:lk st.h b=some (.box [.nils] E0))(hf:st.fr k=true):Imp C st {t:=st.t,h:=(b,.box [.own k] E0)::(k,.row enc [] E s)::st.h}:=λg a w hr=>by
 have Z:b≠k:=λe=>by
  subst e;simp[St.fr]at hf;exact(zcX hf.2 ht).2 rfl
 obtain⟨b1,vs,e1,e2,e3,e4,e5,e6⟩:=hr.sat.blk b _ ht
 have U:Add (some k) g w {ρ:=λn=>if n=k then .slice none 0 0 else g.ρ n,I:=g.I,O:=g.O} w:=⟨Im.le_refl _,λn hn=>by
  have:n≠k:=λe=>hn (by rw[e])
  simp[this],λ_ _=>rfl,Grow.refl w⟩
 have h1:=hr.add (d:=none) (x:=.any) (v:=.nilIface) U (λn hn=>by injection hn with hn;subst hn;exact hf) (λt h=>by simp at h) (.any _) hr.sat.im hr.sat.ob;have T:=h1.withBlk (k:=k) (B:=.row enc [] E s) ⟨[],⟨by simp,.inl ⟨by simp,rfl⟩⟩,λi x h=>by simp at h,λi x j c v h=>by simp at h,λb N=>by simp[y9]at N⟩;refine⟨_,T.withBlk (k:=b) (B:=.box [.own k] E0) ⟨b1,vs,by simp[Z,e1],e2,e3,e4,e5,λj c v V hv=>?_⟩⟩
 have J:j=0:=by
  have:=(j5.1 V).1;simp at this;omega
 subst J;simp at V;subst V;have:=zdH (e6 0 .nils v rfl hv);rw[this];exact .own k none 0 0 (by simp)
end
end Go.Rse
namespace Go.Rse
open Go Go.RowKit
structure Fl:Type 1 where
 i:Nat
 d:Nat
 x:AV
 as:List Nat
def SP(b:St)(fl:List Fl)(β:Nat->Bool):St:=⟨fl.map (λf=>(f.d,.ifb (β f.i) f.x))++rmK (fl.map (·.d)) b.t,b.h⟩
def RP(b:St)(fl:List Fl)(as:List Nat):St:=⟨(fl.filter λf=>memb f.i as).map (λf=>(f.d,f.x))++rmK (fl.map (·.d)) b.t,b.h⟩
def zl6{g:Fl->AV}:∀{fl:List Fl}{b:List (Nat×AV)}{t:Nat}{x:AV},lk (fl.map (λf=>(f.d,g f))++b) t=some x->(∃f∈fl,f.d=t/\g f=x)\/((∀f∈fl,f.d≠t)/\lk b t=some x)
 |[],b,t,x,h=>.inr ⟨λf hf=>by simp at hf,by simpa using h⟩
 |f::r,b,t,x,h=>by
  simp only[uG,uL,yq]at h;cases Z:f.d.beq t<;>simp[Z]at h
  ·have V:f.d≠t:=λe=>by subst e;simp at Z
   rcases zl6 h with⟨f',h1,U,T⟩|⟨h1,U⟩
   ·exact .inl ⟨f',by simp[h1],U,T⟩
   ·exact .inr ⟨λf' hf=>by
     rcases wA.1 hf with rfl|hf
     ·exact V
     ·exact h1 f' hf,U⟩
  ·exact .inl ⟨f,by simp,by simpa using Z,h⟩
def zn5{g:Fl->AV}:∀{fl:List Fl}{b:List (Nat×AV)}{f:Fl},(fl.map (·.d)).Nodup->f∈fl->lk (fl.map (λf=>(f.d,g f))++b) f.d=some (g f)
 |f0::r,b,f,hn,hf=>by
  simp only[uG,vF]at hn;simp only[uG,uL,yq];rcases wA.1 hf with rfl|hf
  ·simp
  ·have Z:f0.d≠f.d:=λe=>hn.1 (by rw[e];exact jW.2 ⟨f,hf,rfl⟩)
   simp only[beqF.2 Z,cond_false];exact zn5 hn.2 hf
def zn6{g:Fl->AV}:∀{fl:List Fl}{b:List (Nat×AV)}{t:Nat},(∀f∈fl,f.d≠t)->lk (fl.map (λf=>(f.d,g f))++b) t=lk b t
 |[],b,t,_=>rfl
 |f::r,b,t,h=>by
  simp only[uG,uL,yq,beqF.2 (h f (by simp)),cond_false];exact zn6 λf' hf=>h f' (by simp[hf])
def zhv{α:Type 1}{g:α->Nat}:∀{l:List α},(l.map g).Nodup->∀{x y:α},x∈l->y∈l->g x=g y->x=y
 |a::r,hn,x,y,hx,V,e=>by
  simp only[uG,vF]at hn;rcases wA.1 hx with h1|h1
  ·rcases wA.1 V with Z|Z
   ·rw[h1,Z]
   ·exact absurd (jW.2 ⟨y,Z,by rw[←e,h1]⟩) hn.1
  ·rcases wA.1 V with Z|Z
   ·exact absurd (jW.2 ⟨x,h1,by rw[e,Z]⟩) hn.1
   ·exact zhv hn.2 h1 Z e
section
variable{P:Program}{C:Ctx}{st st':St}
def Rel.slots{g:Gh}{a:Act}{w:World}(h:Rel C st g a w)(Z:st'.h=st.h)(ht:∀t x,lk st'.t t=some x->RV g.I g.ρ x (a.tmps.getD t undef)):Rel C st' g a w:=
 ⟨h.size,h.defers,ht,⟨h.sat.im,h.sat.ob,λk B V=>h.sat.blk k B (by rw[←Z];exact V)⟩,h.ext⟩
def zCh{b:St}{fl:List Fl}{β:Nat->Bool}{as:List Nat}(hn:(fl.map (·.d)).Nodup)(hβ:∀f∈fl,f.i∈as->β f.i=true){g:Gh}{a:Act}{w:World}(h:Rel C (SP b fl β) g a w):Rel C (RP b fl as) g a w:=by
 refine h.slots rfl λt x hx=>?_
 have hx:lk ((fl.filter λf=>memb f.i as).map (λf=>(f.d,f.x))++rmK (fl.map (·.d)) b.t) t=some x:=hx;rcases zl6 hx with⟨f,hf,rfl,rfl⟩|⟨_,Z⟩
 ·rw[wU]at hf;have h1:RV g.I g.ρ (.ifb (β f.i) f.x) _:=h.tmps f.d _ (zn5 (g:=λf=>.ifb (β f.i) f.x) hn hf.1);exact zpq h1 (hβ f hf.1 (zt.1 hf.2))
 ·have V:=(zjv Z).1;refine h.tmps t x ?_;show lk (fl.map (λf=>(f.d,.ifb (β f.i) f.x))++rmK (fl.map (·.d)) b.t) t=some x;rw[zn6 (g:=λf=>.ifb (β f.i) f.x) (λf hf e=>?_)]
  ·exact Z
  ·have:memb t (fl.map (·.d))=true:=zt.2 (jW.2 ⟨f,hf,e⟩);rw[V]at this;simp at this
def zjI{b:St}{fl:List Fl}{β β':Nat->Bool}(h:∀f∈fl,β f.i=β' f.i):SP b fl β=SP b fl β':=by
 unfold SP;rw[vC λf hf=>by rw[h f hf]]
def zCi(core:List (Nat×List Nat))(f:Fl)(j:Nat):Bool:=(List.range core.length).any λq=>match core[q]? with
 |some c=>(memb c.1 f.as&&j.ble q)||(q.blt j&&memb f.i c.2)
 |none=>false
def zjJ:List (Nat×List Nat)->Bool
 |c::c'::r=>memb c.1 c'.2&&zjJ (c'::r)
 |_=>true
def zjK:∀{core:List (Nat×List Nat)},zjJ core=true->∀{q:Nat}{c c':Nat×List Nat},core[q]? =some c->core[q+1]? =some c'->c.1∈c'.2
 |a::b::r,h,0,c,c',h1,Z=>by
  simp only[zjJ,jA]at h;simp at h1 Z;subst h1;subst Z;exact zt.1 h.1
 |a::b::r,h,q+1,c,c',h1,Z=>by
  simp only[zjJ,jA]at h;exact zjK (core:=b::r) h.2 (by simpa using h1) (by simpa using Z)
 |[a],h,q,c,c',h1,Z=>by simp at Z
 |[],h,q,c,c',h1,Z=>by simp at h1
def zn7(ops:Array Oper)(fl:List Fl)(core:List (Nat×List Nat)):Bool:=
 zfn ops&&decide ((fl.map (·.d)).Nodup)&&decide ((fl.map (·.i)++core.map (·.1)).Nodup)&&((List.range ops.size).all λi=>memb i (fl.map (·.i))||memb i (core.map (·.1)))&&(fl.all λf=>zeR ops f.i f.as)&&(core.all λc=>zeR ops c.1 c.2)&&zjJ core
def zhN:∀{m:Nat}{l:List Bool},(∃i:Nat,i<m/\l[i]? =some false)->∃i:Nat,l[i]? =some false/\∀k:Nat,k<i->l[k]? ≠some false
 |0,l,⟨i,h,_⟩=>by omega
 |m+1,l,⟨i,h,hi⟩=>by
  by_cases Z:∃i:Nat,i<m/\l[i]? =some false
  ·exact zhN Z
  ·refine⟨i,hi,λk hk e=>Z ⟨k,by omega,e⟩⟩
def zj{b:St}{fl:List Fl}(h:Imp C st b):Imp C st (SP b fl λ_=>false):=λg a w hr=>by
 obtain⟨g',h1⟩:=h g a w hr;refine⟨g',h1.slots rfl λt x hx=>?_⟩;have hx:lk (fl.map (λf=>(f.d,.ifb false f.x))++rmK (fl.map (·.d)) b.t) t=some x:=hx;rcases zl6 (g:=λf=>.ifb false f.x) hx with⟨f,hf,rfl,rfl⟩|⟨_,Z⟩
 ·exact .ifb _ _ _ λh=>by cases h
 ·exact h1.tmps t x (zjv Z).2
def znc{b:Bool}{x:AV}(h:b=true):LeV (.ifb b x) x:=by subst h;exact LeV.ifb (LeV.refl x)
def zkM(b:Bool)(x:AV):LeV x (.ifb b x):=λI ρ v h=>.ifb _ _ _ λ_=>h
def Imp.im{C:Ctx}{st:St}{ts:List (Nat×AV)}{hs:List (Nat×Blk)}(h1:impT st ts:=by(repeat'(first|exact True.intro|(refine And.intro ⟨_,rfl,?_⟩ ?_;(first|exact LeV.refl _|exact LeV.any _|exact LeB.refl _|(refine LeV.eq ?_;simp;done)|(refine LeV.eq ?_;congr 1;omega)|(refine LeV.eq ?_;dsimp only;congr 1;omega)|(refine LeV.eq (j9 (AV.int _) ?_);omega)|exact LeV.nils _|exact LeB.row (by assumption)|(refine LeB.eq ?_;congr 1;omega)|(refine LeB.eq ?_;congr 1;simp only[cond_true,cond_false];omega))))))(Z:impH st hs:=by(repeat'(first|exact True.intro|(refine And.intro ⟨_,rfl,?_⟩ ?_;(first|exact LeV.refl _|exact LeV.any _|exact LeB.refl _|(refine LeV.eq ?_;simp;done)|(refine LeV.eq ?_;congr 1;omega)|(refine LeV.eq ?_;dsimp only;congr 1;omega)|(refine LeV.eq (j9 (AV.int _) ?_);omega)|exact LeV.nils _|exact LeB.row (by assumption)|(refine LeB.eq ?_;congr 1;omega)|(refine LeB.eq ?_;congr 1;simp only[cond_true,cond_false];omega)))))):Imp C st ⟨ts,hs⟩:=Imp.of h1 Z
def ym{C:Ctx}{st:St}{ts:List (Nat×AV)}{hs:List (Nat×Blk)}(h1:impT st ts:=by(repeat'(first|exact True.intro|(refine And.intro ⟨_,rfl,?_⟩ ?_;(first|exact LeV.refl _|exact znc (hβ _ (by simp))|exact zkM _ _|exact LeV.any _|exact LeB.refl _|(refine LeV.eq ?_;simp;done)|(refine LeV.eq ?_;congr 1;omega)|(refine LeV.eq ?_;dsimp only;congr 1;omega)|(refine LeV.eq (j9 (AV.int _) ?_);omega)|exact LeV.nils _|exact LeB.row (by assumption)|(refine LeB.eq ?_;congr 1;omega)|(refine LeB.eq ?_;congr 1;simp only[cond_true,cond_false];omega))))))(Z:impH st hs:=by(repeat'(first|exact True.intro|(refine And.intro ⟨_,rfl,?_⟩ ?_;(first|exact LeV.refl _|exact znc (hβ _ (by simp))|exact zkM _ _|exact LeV.any _|exact LeB.refl _|(refine LeV.eq ?_;simp;done)|(refine LeV.eq ?_;congr 1;omega)|(refine LeV.eq ?_;dsimp only;congr 1;omega)|(refine LeV.eq (j9 (AV.int _) ?_);omega)|exact LeV.nils _|exact LeB.row (by assumption)|(refine LeB.eq ?_;congr 1;omega)|(refine LeB.eq ?_;congr 1;simp only[cond_true,cond_false];omega)))))):Imp C st ⟨ts,hs⟩:=Imp.of h1 Z
def yn{dst:Option Tmp}{op:Op}{ty:TypeId}{st0:St}(hi:Imp C st st0)(hs:yz P C op ty dst st0 st'):yz P C op ty dst st st':=λg a w pos af gd hr K Z=>
 let⟨g2,V⟩:=hi g a w hr;hs g2 a w pos af gd V K Z
def zy8(ds:List (List Bool))(N:Nat):Bool:=(List.range ds.length).all λp=>match ds[p]? with
 |some d=>!(d.all id)||p==N
 |none=>true
def zsD{rid:Nat}{l:List Oper}{Q:Exit->St->Prop}(sts:List St)(ds:List (List Bool))(es:List (Nat×Nat×Nat))(N:Nat)(hm:P.follows .mixedOrders=true){s0 sN:St}(h0:ds[0]? =some (List.replicate l.length false))(T:sts[0]? =some s0)(hi:Imp C st s0)(G:zsC l.toArray ds es=true)(V:ds.length=sts.length)
 (hN:zy8 ds N=true)(J:sts[N]? =some sN)(hs:HAll P C l.toArray sts es)(U:Q .normal sN):X P C (.region rid l.toArray true) st Q:=
 X.drawN sts ds es hm h0 T hi G V hs λp d s H E Z=>by
  have h1:=jF.1 hN p (by simpa using(j5.1 H).1);rw[H]at h1;simp only[E,kG,Bool.false_or,beq_iff_eq]at h1;subst h1;rw[J]at Z;injection Z with Z;subst Z;exact U
end
end Go.Rse
namespace Go.Rse
open Go Go.RowKit
section
variable{P:Program}{C:Ctx}{st:St}{ty:TypeId}
def yr{α:Type}{enc:α->List AV}{l:List α}{t E:TypeId}{ag:Bool}{s n:Nat}{parts:Array (Nat×Operand)}{ps:List (Nat×AV)}{z:Value}(ht:slOk P t E=true)(hE:tyOk P E ag s=true)(hz:(P.info? E).bind (·.zero)=some z)
 (x3:0<s)(hp:zbO st parts.toList=some ps)(hk:zcz ps=true)(hf:zfL (λi=>some (i*s,s)) (List.replicate (n*s) .any) ps=some (l.flatMap enc))(T:l.length=n)(hn:n*s<=16777216)(hm:n<=1000000)
 (hs:∀x,(enc x).length=s)(hnm:AV.nm.nmL (l.flatMap enc)=true):yy P C (.buildSlice t n parts) ty st (.sl enc l) none:=
 zai λg a w dst pos af gd hr=>by
  have H:n<=maxLen:=by simp only[maxLen];omega
  have main:∀zc:Array Value,∃vs',Instr.fill (λi=>some (i*s,s)) ((Array.range (n*s)).map (zc[· %zc.size]!)) (parts.map λ(i,x)=>(i,a.eval x)).toList=some vs'/\RVL g.I g.ρ (l.flatMap enc) vs'.toList:=λzc=>by
   have:=zg4 (I:=g.I) (ρ:=g.ρ) (λi=>some (i*s,s)) ps (parts.toList.map λ(i,x)=>(i,a.eval x)) (List.replicate (n*s) .any) (l.flatMap enc) ((Array.range (n*s)).map (zc[· %zc.size]!)) (zc1 hr hp) hk
    ⟨by simp,λj c v Z hv=>by
     rw[xH]at Z;split at Z
     ·injection Z with Z;subst Z;exact .any v
     ·simp at Z⟩ hf
   simpa using this
  have N:∀(i:Nat)x,l[i]? =some x->(enc x).length=s:=λi x _=>hs x
  let gF:Array Value->Gh:=λvs'=>⟨g.ρ,λb o=>if b=w.heap.size then vs'[o]? else g.I b o,g.O⟩
  have fin:∀vs':Array Value,RVL g.I g.ρ (l.flatMap enc) vs'.toList→
   Add none g w (gF vs') (w.alloc (.cells vs' E))/\RV (gF vs').I (gF vs').ρ (.sl enc l) (.slice (some ⟨w.heap.size,0,none⟩) n n)/\ImOB (gF vs') (w.alloc (.cells vs' E)):=λvs' hv=>by
   have J:Im.le g.I (gF vs').I:=λb o u hI=>by
    have:=zcy (hr.sat.im b o u hI).1;simp only[gF];rw[j7 (by omega)];exact hI
   have G:vs'.toList.length=n*s:=by rw[hv.1,zJ l N,T]
   have xT:=zbw N (I:=g.I) (xs:=vs'.toList) ⟨hv.1,λj c v Z x4=>(hv.2 j c v Z x4).forget (zw hnm Z)⟩;refine⟨⟨J,λ_ _=>rfl,λ_ _=>rfl,Grow.alloc _ _⟩,?_,λb o u hI=>?_,λb k hO=>?_,Im.le_trans hr.sat.ob.2 J⟩
   ·have U:∀(i:Nat)(x:α)(j:Nat),l[i]? =some x->j<s->i*s+j<vs'.size:=λi x j hx hj=>by
     have h1:i<n:=by rw[←T];exact(j5.1 hx).1
     have V:(i+1)*s<=n*s:=jX s h1;have h3:vs'.size=n*s:=by simpa using G
     rw[Nat.add_mul]at V;omega
    have key:=RV.sl (I:=(gF vs').I) (ρ:=(gF vs').ρ) enc l (some ⟨w.heap.size,0,none⟩) w.heap.size 0 s n (λi j=>(vs'[i*s+j]?).getD .nilIface) (λ_=>rfl) (by omega) H N
     (λi x j hx hj=>by
      have:=U i x j hx hj;simp only[gF,if_true,vU];simp[this])
     (λi x j c hx Z=>by
      have hj:j<s:=by rw[←hs x];exact(j5.1 Z).1
      have h1:=U i x j hx hj;have V:vs'.toList[i*s+j]? =some vs'[i*s+j]:=by simp[h1]
      have h3:=(xT i x j c _ hx Z V).mono J;simpa[h1]using h3)
    rw[T]at key;exact key
   ·simp only[gF]at hI;by_cases e:b=w.heap.size
    ·subst e;rw[j6 rfl]at hI;refine⟨?_,?_⟩
     ·have h1:=heap_alloc_new w (.cells vs' E);simp only[World.cell?,h1];simpa using hI
     ·show g.O w.heap.size=none;cases hO:g.O w.heap.size with
      |none=>rfl
      |some k=>have:=hr.sat.ob.1 _ _ hO;omega
    ·rw[j7 e]at hI;obtain⟨h1,V⟩:=hr.sat.im b o u hI;exact⟨(Grow.alloc w (.cells vs' E)).cell h1,V⟩
   ·have:=hr.sat.ob.1 b k hO;show b<(w.heap.push _).size;simp;omega
  cases hi:P.info? E with
  |none=>simp[hi]at hz
  |some i=>
   simp[hi]at hz;have x2:i.size=s:=by simp[tyOk,hi]at hE;exact hE.1
   by_cases h0:n*s=0
   ·obtain⟨vs',h1,V⟩:=main #[];obtain⟨f1,f2,f3⟩:=fin vs' V;refine⟨_,_,_,?_,f1,f2,f3,λk' B hB=>by cases hB⟩;simp only[execOp,Instr.buildSlice,jP,run_underlying (zh ht),jI,yZ hE,h0,if_true,jU];rw[h0]at h1;rw[j7 (by omega)];simp only[jU,jI,h1,newRow,jP,run_newObj];rfl
   ·obtain⟨vs',h1,V⟩:=main z.cells;obtain⟨f1,f2,f3⟩:=fin vs' V;refine⟨_,_,_,?_,f1,f2,f3,λk' B hB=>by cases hB⟩;simp only[execOp,Instr.buildSlice,jP,run_underlying (zh ht),jI,yZ hE,h0,if_false,jU];rw[j7 (by omega)];simp only[jU,jP,zeroValue,typeInfo,run_program,hi,hz,jI,h1,newRow,run_newObj];rfl
end
end Go.Rse
namespace Go.Rse
open Go Go.RowKit
section
variable{P:Program}{C:Ctx}{st:St}{ty:TypeId}
def yU{ops:Array Oper}{Q:Exit->St->Prop}{rest:List Oper}{dst:Option Tmp}{op:Op}{pos:String}{af:Array Edge}{i t:Nat}{want b:Bool}
 (hi:(ops[i]?).bind (·.dst)=some t)(U:lk st.t t=some (.bool b))(T:(b==want)=true)
 (h:Ex P C ops ({dst:=dst,op:=op,type:=ty,pos:=pos,after:=af,guard:=none}::rest) st Q):Ex P C ops ({dst:=dst,op:=op,type:=ty,pos:=pos,after:=af,guard:=some (i,want)}::rest) st Q:=λg a w hr=>by
 have N:yielded ops a.tmps i=some b:=by
  have:=zr (hr.tmps t _ U)
  have e:a.tmps[t]? =some (.bool b):=by
   simp only[jM]at this;cases h:a.tmps[t]? with
   |none=>rw[h]at this;simp[undef]at this
   |some u=>rw[h]at this;simpa using this
  simp[yielded,hi,e]
 have V:Region.wanted {dst:=dst,op:=op,type:=ty,pos:=pos,after:=af,guard:=some (i,want)} (yielded ops a.tmps)=true:=by
  simp only[Region.wanted,N];exact T
 have Z:Region.wanted {dst:=dst,op:=op,type:=ty,pos:=pos,after:=af,guard:=none} (yielded ops a.tmps)=true:=rfl;have h1:=h g a w hr;unfold wpListIn at h1⊢;rw[j6 Z]at h1;rw[j6 V];exact h1
end
end Go.Rse
namespace Go.Rse
open Go Go.RowKit
section
variable{P:Program}{C:Ctx}{st:St}{ty:TypeId}
def zwW(P:Program)(C:Ctx)(ops:Array Oper)(core:List (Nat×List Nat))(fl:List Fl)(b:St)(f:Fl)(j:Nat):Prop:=zCi core f j=true\/∃o,ops[f.i]? =some o/\o.guard=none/\o.dst=some f.d/\f.d.blt C.n=true/\yy P C o.op o.type (RP b fl f.as) f.x none
def zhw(P:Program)(C:Ctx)(ops:Array Oper)(core:List (Nat×List Nat))(fl:List Fl)(b:St)(j:Nat):List Fl->Prop
 |[]=>True
 |f::r=>zwW P C ops core fl b f j/\zhw P C ops core fl b j r
def zhw.get{ops:Array Oper}{core:List (Nat×List Nat)}{fl:List Fl}{b:St}{j:Nat}:∀{l:List Fl},zhw P C ops core fl b j l->∀f∈l,zwW P C ops core fl b f j
 |g::r,h,f,hf=>by
  rcases wA.1 hf with rfl|hf
  ·exact h.1
  ·exact h.2.get f hf
def drawQ{ops:Array Oper}{Q:Exit->St->Prop}{fl:List Fl}{core:List (Nat×List Nat)}{bs:Nat->St}(hp:zn7 ops fl core=true)(hF:∀j,j<=core.length->zhw P C ops core fl (bs j) j fl)
 (hM:∀j c,core[j]? =some c->∀β:Nat->Bool,(∀a∈c.2,β a=true)->znb P C ops c.1 (SP (bs j) fl β) (SP (bs (j+1)) fl β))(v4:Q .normal (SP (bs core.length) fl λ_=>true)):
 ∀(n:Nat)(l:List Bool)(j:Nat)(g:Gh)(a:Act)(w:World),l.length=ops.size->zgk ops l.toArray->zaB l=n->j<=core.length->(∀q c,core[q]? =some c->(l.toArray.getD c.1 false=true↔q<j))->Rel C (SP (bs j) fl λi=>l.toArray.getD i false) g a w→
 wpAnyIn C.F 0 P .any ops (lift C Q) n l.toArray a w:=by
 simp only[zn7,jA,w4]at hp;obtain⟨⟨⟨⟨⟨⟨he,w2⟩,v9⟩,v3⟩,v2⟩,xT⟩,k4⟩:=hp
 have v1:∀i,i<ops.size->∀j∈dir ops i,j<i:=λi hi j hj=>by
  have:=jF.1 (jF.1 he i (by simpa using hi)) j hj;simpa using this
 have k3:(fl.map (·.i)).Nodup:=(vL.1 v9).1;have j4:(core.map (·.1)).Nodup:=(vL.1 v9).2.1;have v0:∀f∈fl,∀c∈core,f.i≠c.1:=λf hf c Z=>(vL.1 v9).2.2 _ (jW.2 ⟨f,hf,rfl⟩) _ (jW.2 ⟨c,Z,rfl⟩)
 have u4:∀(l:List Bool)(i:Nat),i<l.length->(l.toArray.getD i false=true↔l[i]? =some true):=λl i h=>by
  simp[jM,h]
 intro n
 induction n with
 |zero=>
  intro l j g a w hl V hn hj hq hr;have j3:=zeY hn
  have G:∀i,i<l.length->l.toArray.getD i false=true:=λi hi=>by
   have:=jF.1 j3 _ (uZ hi);simp[jM,hi];simpa using this
  refine⟨uY.2 λi hi=>?_,?_⟩
  ·obtain⟨h1,U,_⟩:=zO.1 hi;rw[zir (by simpa[hl]using h1),G i (by omega)]at U;cases U
  ·have x1:∀i,i∈fl.map (·.i)++core.map (·.1)->l.toArray.getD i false=true\/ops.size<=i:=λi _=>by
    rcases wD i ops.size with h|h
    ·exact .inl (G i (by omega))
    ·exact .inr h
   have j2:j=core.length:=by
    rcases wD j core.length with h|h
    ·exfalso;obtain⟨c,Z⟩:∃c,core[j]? =some c:=⟨_,jB h⟩;have h1:¬l.toArray.getD c.1 false=true:=λe=>by have:=(hq j c Z).1 e;omega
     rcases x1 c.1 (List.mem_append_right _ (jW.2 ⟨c,j8 Z,rfl⟩))with U|U
     ·exact h1 U
     ·obtain⟨o,ho,_⟩:=hM j c Z (λ_=>true) (λ_ _=>rfl);have:=(wP.1 ho).1;omega
    ·omega
   subst j2;refine⟨_,g,hr,?_⟩
   have j1:SP (bs core.length) fl (λi=>l.toArray.getD i false)=SP (bs core.length) fl λ_=>true:=zjI λf hf=>by
    rcases x1 f.i (List.mem_append_left _ (jW.2 ⟨f,hf,rfl⟩))with U|U
    ·exact U
    ·rcases(hF core.length (jE _)).get f hf with h3|⟨o,ho,_⟩
     ·exfalso;obtain⟨q,_,h4⟩:=uX.1 h3;cases Z:core[q]? with
      |none=>simp[Z]at h4
      |some c=>
       simp only[Z,wJ,jA]at h4;have x0:=(j5.1 Z).1;rcases h4 with⟨_,h5⟩|⟨_,h5⟩
       ·have:core.length<=q:=by simpa using h5
        omega
       ·have H:=(hq q c Z).2 x0;obtain⟨o,ho,_⟩:=hM q c Z (λ_=>true) (λ_ _=>rfl);have j0:=(wP.1 ho).1;have h6:=zD V (V c.1 j0 H) (jF.1 xT c (j8 Z)) f.i (zt.1 h5)
        have:f.i<l.length:=by
         rcases wD f.i l.length with h|h
         ·exact h
         ·simp[jM,wF h]at h6
        omega
     ·have:=(wP.1 ho).1;omega
   rw[j1];exact v4
 |succ n ih=>
  intro l j g a w hl V hn hj hq hr
  have hZ:∃i:Nat,l[i]? =some false/\∀k:Nat,k<i->l[k]? ≠some false:=by
   refine zhN (m:=l.length) ?_;refine jV λhY=>?_
   have:zaB l=0:=by
    unfold zaB;rw[uO.2 (λb hb=>?_)];rfl;obtain⟨i,hi⟩:=jQ.1 hb;cases b
    ·exact absurd ⟨i,(j5.1 hi).1,hi⟩ hY
    ·simp
   omega
  have hX:Region.ready .any ops l.toArray≠[]:=λe=>by
   obtain⟨i,hi,u3⟩:=hZ;have x4:=(j5.1 hi).1
   have:i∈Region.ready .any ops l.toArray:=zO.2 ⟨by omega,by simp[jM,hi],λk hk=>by
    have hW:=v1 i (by omega) k hk;rw[u4 l k (by omega)];have h1:=u3 k hW;have U:l[k]? =some l[k]:=jB (by omega);cases hb:l[k]
    ·rw[hb]at U;exact absurd U h1
    ·rw[hb]at U;exact U⟩
   rw[e]at this;simp at this
  refine⟨λe=>absurd e hX,λi hi=>?_⟩;obtain⟨r1,r2,r3⟩:=zO.1 hi;have x4:i<l.length:=by omega
  have u2:l[i]? =some false:=by
   simp[jM,x4]at r2;rw[jB x4,r2]
  have u1:l.toArray.getD i false=false:=by simp[jM,u2]
  have es:l.toArray.setIfInBounds i true=(l.set i true).toArray:=by simp
  have T:∀k,(l.set i true).toArray.getD k false=if i=k then true else l.toArray.getD k false:=λk=>by
   rw[←es];exact zat (by simpa using x4)
  have H:zgk ops (l.set i true).toArray:=λk hk v8 m hm=>by
   rw[T]at v8⊢;by_cases e:i=m
   ·rw[j6 e]
   ·rw[j7 e];by_cases e2:i=k
    ·subst e2;exact r3 m hm
    ·rw[j7 e2]at v8;exact V k hk v8 m hm
  have k9:zaB (l.set i true)=n:=by have:=zgm u2;omega
  have k8:i∈fl.map (·.i)\/i∈core.map (·.1):=by
   have:=jF.1 v3 i (by simpa using r1);simp only[wJ]at this;rcases this with h|h
   ·exact .inl (zt.1 h)
   ·exact .inr (zt.1 h)
  rcases k8 with hm|hm
  ·obtain⟨f,hf,rfl⟩:=jW.1 hm;rcases(hF j hj).get f hf with h3|⟨o,ho,hg,hd,hU,w9⟩
   ·exfalso;obtain⟨q,_,h4⟩:=uX.1 h3;cases Z:core[q]? with
    |none=>simp[Z]at h4
    |some c=>
     simp only[Z,wJ,jA]at h4;rcases h4 with⟨h5,h6⟩|⟨h5,h6⟩
     ·have h7:=zD V r3 (jF.1 v2 f hf) c.1 (zt.1 h5);have:=(hq q c Z).1 h7;have:j<=q:=by simpa using h6
      omega
     ·have v5:q<j:=by simpa using h5
      have h7:=(hq q c Z).2 v5;obtain⟨o,ho,_⟩:=hM q c Z (λ_=>true) (λ_ _=>rfl);have h8:=zD V (V c.1 (wP.1 ho).1 h7) (jF.1 xT c (j8 Z)) f.i (zt.1 h6);rw[u1]at h8;cases h8
   ·have hT:=zCh (as:=f.as) w2 (λf' x3 hQ=>zD V r3 (jF.1 v2 f hf) f'.i hQ) hr;obtain⟨dst,op,ty,pos,af,gd⟩:=o;simp only at hg hd w9;subst hg;subst hd;simp only[wpOpIn,ho];have hw:Region.wanted {dst:=some f.d,op:=op,type:=ty,pos:=pos,after:=af,guard:=none} (yielded ops a.tmps)=true:=rfl;rw[j6 hw];refine zaz (w9 g a w (some f.d) pos af none hT _ λv w' g' U h3 h4 h5=>?_);rw[es];refine ih (l.set f.i true) j g' _ w' (by simpa using hl) H k9 hj (λq c Z=>?_) ?_
    ·rw[T,j7 (v0 f hf c (j8 Z))];exact hq q c Z
    ·have h6:=hr.addSt (d:=some f.d) (nb:=none) U hU rfl h3 h4.1 h4.2 (λ_ _ h=>by cases h);refine h6.slots rfl λt x hx=>?_
     have hx:lk (fl.map (λf'=>(f'.d,.ifb ((l.set f.i true).toArray.getD f'.i false) f'.x))++rmK (fl.map (·.d)) (bs j).t) t=some x:=hx;rcases zl6 (g:=λf'=>.ifb ((l.set f.i true).toArray.getD f'.i false) f'.x) hx with⟨f',x3,rfl,rfl⟩|⟨h7,h8⟩
     ·by_cases e:f'.i=f.i
      ·have:f'=f:=zhv k3 x3 hf e;subst this;have h9:lk ((f'.d,f'.x)::(SP (bs j) fl λi=>l.toArray.getD i false).t) f'.d=some f'.x:=by simp[yq]
       exact .ifb _ _ _ λ_=>h6.tmps f'.d f'.x h9
      ·have E:f.d≠f'.d:=λe2=>e (j9 Fl.i (zhv w2 x3 hf e2.symm))
       have h9:lk ((f.d,f.x)::(SP (bs j) fl λi=>l.toArray.getD i false).t) f'.d=some (.ifb (l.toArray.getD f'.i false) f'.x):=by
        simp only[yq,beqF.2 E,cond_false];exact zn5 (g:=λf=>.ifb (l.toArray.getD f.i false) f.x) w2 x3
       have hP:=h6.tmps f'.d _ h9;show RV g'.I g'.ρ (.ifb ((l.set f.i true).toArray.getD f'.i false) f'.x) _;rw[T,j7 (λe2=>e e2.symm)];exact hP
     ·have E:f.d≠t:=h7 f hf;refine h6.tmps t x ?_;show lk ((f.d,f.x)::(SP (bs j) fl λi=>l.toArray.getD i false).t) t=some x;simp only[yq,beqF.2 E,cond_false];show lk (fl.map (λf=>(f.d,.ifb (l.toArray.getD f.i false) f.x))++rmK (fl.map (·.d)) (bs j).t) t=some x;rw[zn6 (g:=λf=>.ifb (l.toArray.getD f.i false) f.x) h7];exact h8
  ·obtain⟨c,x2,rfl⟩:=jW.1 hm;obtain⟨q,N⟩:=jQ.1 x2
   have v5:q=j:=by
    have h1:¬q<j:=λh=>by have:=(hq q c N).2 h;rw[u1]at this;cases this
    cases q with
    |zero=>omega
    |succ q=>
     obtain⟨c0,k7⟩:∃c0,core[q]? =some c0:=⟨_,jB (by have:=(j5.1 N).1;omega)⟩;have U:=zjK k4 k7 N;have h3:=zD V r3 (jF.1 xT c x2) c0.1 U;have:=(hq q c0 k7).1 h3;omega
   subst v5;have x0:=(j5.1 N).1;obtain⟨o,ho,hg,k6⟩:=hM q c N (λi=>l.toArray.getD i false) (zD V r3 (jF.1 xT c x2));obtain⟨dst,op,ty,pos,af,gd⟩:=o;simp only at hg k6;subst hg;simp only[wpOpIn,ho];have hw:Region.wanted {dst:=dst,op:=op,type:=ty,pos:=pos,after:=af,guard:=none} (yielded ops a.tmps)=true:=rfl;rw[j6 hw];refine zaz (k6 g a w pos af none hr _ λa' w' g' h'=>?_);rw[es];refine ih (l.set c.1 true) (q+1) g' a' w' (by simpa using hl) H k9 (by omega) (λq' c' J=>?_) ?_
   ·rw[T];by_cases e:c.1=c'.1
    ·rw[j6 e]
     have k5:q'=q:=by
      have h1:(core.map (·.1))[q']? =some c'.1:=by rw[jN,J];rfl
      have U:(core.map (·.1))[q]? =some c'.1:=by rw[jN,N];simp[e]
      exact(List.getElem?_inj (by simpa using(j5.1 J).1) j4).1 (h1.trans U.symm)
     subst k5;exact⟨λ_=>by omega,λ_=>rfl⟩
    ·rw[j7 e];rw[hq q' c' J];have k5:q'≠q:=λe2=>by subst e2;rw[N]at J;injection J with J;subst J;exact e rfl
     omega
   ·rw[zjI (β':=λi=>l.toArray.getD i false) λf hf=>by rw[T,j7 (λe=>v0 f hf c x2 e.symm)]];exact h'
def X.drawQ{rid:Nat}{l:List Oper}{Q:Exit->St->Prop}(fl:List Fl)(core:List (Nat×List Nat))(bs:Nat->St)(hm:P.follows .mixedOrders=true)(N:zn7 l.toArray fl core=true)(hi:Imp C st (SP (bs 0) fl λ_=>false))
 (J:∀j,j<=core.length->zhw P C l.toArray core fl (bs j) j fl)(H:∀j c,core[j]? =some c->∀β:Nat->Bool,(∀a∈c.2,β a=true)->znb P C l.toArray c.1 (SP (bs j) fl β) (SP (bs (j+1)) fl β))(V:Q .normal (SP (bs core.length) fl λ_=>true)):X P C (.region rid l.toArray true) st Q:=λg a w hr=>by
 refine wpIn_region_any hm ?_;obtain⟨g1,Z⟩:=hi g a w hr;have U:Rel C (SP (bs 0) fl λ_=>false) g1 a w.drew:=Z.add (nk:=none) (d:=none) (x:=.any) (v:=.nilIface) ⟨Im.le_refl _,λ_ _=>rfl,λ_ _=>rfl,Grow.drew w⟩ (λk h=>by simp at h) (λt h=>by simp at h) (.any _) Z.sat.im Z.sat.ob
 have T:∀k,(List.replicate l.length false).toArray.getD k false=false:=λk=>by
  simp only[jM,xS,xH];split<;>rfl
 have h:=Rse.drawQ N J H V (zaB (List.replicate l.length false)) (List.replicate l.length false) 0 g1 a w.drew (by simp) (λi _ hi=>by rw[T]at hi;cases hi) rfl (wK _) (λq c _=>by rw[T];exact⟨λh=>(by cases h),λh=>(by omega)⟩) (by
  rw[zjI (β':=λ_=>false) λf _=>T f.i];exact U)
 have e1:zaB (List.replicate l.length false)=l.toArray.size:=by simp[zaB]
 have e2:(List.replicate l.length false).toArray=Array.replicate l.toArray.size false:=by simp
 rw[e1,e2]at h;exact h
def zdi{α:Type}{enc:α->List AV}{l:List α}{E t:TypeId}{x y:Operand}{s:Nat}{kk:IntKind}{i:Int}{ag:Bool}(hx:ev st x=some (.sl enc l))(N:ev st y=some (.int kk i))(ht:slOk P t E=true)(hE:tyOk P E ag s=true)(he:∀x,(enc x).length=s)
 (h0:0<=i)(h1:i<=l.length):Pur P C (.slice t x none (some y) none) ty st (.sl enc (l.take i.toNat)):=λg a w dst pos af gd hr=>by
 obtain⟨A,b,o,s',c,vs,e,J,G,hm,hs,hI,hv⟩:=zcZ (yA hr hx);have ey:=y5 (yA hr N);have hl:(l.take i.toNat).length=i.toNat:=by rw[jO];omega
 have H:(Instr.sliceBounds true l.length c none (some (.int kk i)) none).run P w=.ok (0,i.toNat,c) w:=by
  simp[Instr.sliceBounds,Instr.sliceBound,asIntOf,h0];omega
 refine⟨.slice (if c=0 then A else A.map (·.add (0*s))) i.toNat c,?_,?_⟩
 ·simp[execOp,Instr.sliceAt,Instr.slice,run_underlying (zh ht),e,ey,H,yZ hE]
 ·have Z:∀{j:Nat}{x:α},(l.take i.toNat)[j]? =some x->l[j]? =some x:=λ{j x}h=>by
   rw[wI]at h;split at h
   ·exact h
   ·simp at h
  have U:l.take i.toNat≠[]->(if c=0 then A else A.map (·.add (0*s)))=some ⟨b,o,none⟩:=λT=>by
   have V:l≠[]:=λe=>T (by rw[e];simp)
   have:=uH.2 V;rw[j7 (by omega),J V];simp[zP]
  have:=RV.sl (I:=g.I) (ρ:=g.ρ) enc (l.take i.toNat) (if c=0 then A else A.map (·.add (0*s))) b o s' c vs U (by rw[hl];omega) hm (λj x h=>hs j x (Z h)) (λj x q h=>hI j x q (Z h)) (λj x q cell h=>hv j x q cell (Z h));rw[hl]at this;exact this
def zY{α:Type}{enc:α->List AV}{l:List α}{E t:TypeId}{x y:Operand}{s:Nat}{kk:IntKind}{i:Int}{ag:Bool}(hx:ev st x=some (.sl enc l))(H:ev st y=some (.int kk i))(ht:slOk P t E=true)(hE:tyOk P E ag s=true)(he:∀x,(enc x).length=s)
 (h0:0<=i)(h1:i<=l.length):Pur P C (.slice t x (some y) none none) ty st (.sl enc (l.drop i.toNat)):=λg a w dst pos af gd hr=>by
 obtain⟨A,b,o,s',c,vs,e,G,hc,hm,hs,hI,hv⟩:=zcZ (yA hr hx);have ey:=y5 (yA hr H);have hl:(l.drop i.toNat).length=l.length-i.toNat:=u7
 have hb:(Instr.sliceBounds true l.length c (some (.int kk i)) none none).run P w=.ok (i.toNat,l.length,c) w:=by
  simp[Instr.sliceBounds,Instr.sliceBound,asIntOf,h0,h1]
 refine⟨.slice (if c=i.toNat then A else A.map (·.add (i.toNat*s))) (l.length-i.toNat) (c-i.toNat),?_,?_⟩
 ·simp[execOp,Instr.sliceAt,Instr.slice,run_underlying (zh ht),e,ey,hb,yZ hE]
 ·have Z:∀{j:Nat}{x:α},(l.drop i.toNat)[j]? =some x->l[i.toNat+j]? =some x:=λ{j x}h=>by
   rwa[wV]at h
  have V:∀{j:Nat}{x:α},(l.drop i.toNat)[j]? =some x->s'=s:=λ{j x}h=>(hs _ _ (Z h)).symm.trans (he x)
  have T:l.drop i.toNat≠[]->(if c=i.toNat then A else A.map (·.add (i.toNat*s)))=some ⟨b,o+i.toNat*s,none⟩:=λU=>by
   have N:l≠[]:=λe=>U (by rw[e];simp)
   have:=uH.2 U;rw[j7 (by omega),G N];simp[zP]
  have:=RV.sl (I:=g.I) (ρ:=g.ρ) enc (l.drop i.toNat) (if c=i.toNat then A else A.map (·.add (i.toNat*s))) b (o+i.toNat*s) s (c-i.toNat) (λj q=>vs (i.toNat+j) q) T (by rw[hl];omega) (by omega) (λj x h=>he x)
   (λj x q h hq=>by
    have J:q<s':=by rw[V h];exact hq
    have:=hI _ _ q (Z h) J;rw[V h,Nat.add_mul,←vD o]at this;exact this) (λj x q cell h=>hv _ _ q cell (Z h))
  rw[hl]at this;exact this
end
section
variable{P:Program}{C:Ctx}{st:St}{ops:Array Oper}{fl:List Fl}{core:List (Nat×List Nat)}{bs:Nat->St}
end
end Go.Rse
namespace Go.Rse
open Go Go.RowKit
section
variable{P:Program}{C:Ctx}{st:St}{ty:TypeId}
def zdj{α:Type}{enc:α->List AV}{l:List α}{E t:TypeId}{x y z:Operand}{s:Nat}{kk kj:IntKind}{i j:Int}{ag:Bool}(hx:ev st x=some (.sl enc l))(hy:ev st y=some (.int kk i))(hz:ev st z=some (.int kj j))(ht:slOk P t E=true)(hE:tyOk P E ag s=true)(he:∀x,(enc x).length=s)
 (h0:0<=i)(h1:i<=j)(h2:j<=l.length):Pur P C (.slice t x (some y) (some z) none) ty st (.sl enc ((l.drop i.toNat).take (j.toNat-i.toNat))):=λg a w dst pos af gd hr=>by
 obtain⟨A,b,o,s',c,vs,e,hA,hc,hm,hs,hI,hv⟩:=zcZ (yA hr hx);have ey:=y5 (yA hr hy);have ez:=y5 (yA hr hz);have hl:((l.drop i.toNat).take (j.toNat-i.toNat)).length=j.toNat-i.toNat:=by rw[jO,u7];omega
 have T:j<=(c:Int):=by omega
 have N:0<=j:=by omega
 have hb:(Instr.sliceBounds true l.length c (some (.int kk i)) (some (.int kj j)) none).run P w=.ok (i.toNat,j.toNat,c) w:=by
  have xT:i<=((j.toNat:Nat):Int):=by omega
  simp[Instr.sliceBounds,Instr.sliceBound,asIntOf,h0,N,T];omega
 refine⟨.slice (if c=i.toNat then A else A.map (·.add (i.toNat*s))) (j.toNat-i.toNat) (c-i.toNat),?_,?_⟩
 ·simp[execOp,Instr.sliceAt,Instr.slice,run_underlying (zh ht),e,ey,ez,hb,yZ hE]
 ·have Z:∀{q:Nat}{x:α},((l.drop i.toNat).take (j.toNat-i.toNat))[q]? =some x->l[i.toNat+q]? =some x:=λ{q x}h=>by
   rw[wI]at h;split at h
   ·rwa[wV]at h
   ·simp at h
  have V:∀{q:Nat}{x:α},((l.drop i.toNat).take (j.toNat-i.toNat))[q]? =some x->s'=s:=λ{q x}h=>(hs _ _ (Z h)).symm.trans (he x)
  have J:(l.drop i.toNat).take (j.toNat-i.toNat)≠[]->(if c=i.toNat then A else A.map (·.add (i.toNat*s)))=some ⟨b,o+i.toNat*s,none⟩:=λU=>by
   have H:l≠[]:=λe=>U (by rw[e];simp)
   have:=uH.2 U;rw[j7 (by omega),hA H];simp[zP]
  have:=RV.sl (I:=g.I) (ρ:=g.ρ) enc ((l.drop i.toNat).take (j.toNat-i.toNat)) (if c=i.toNat then A else A.map (·.add (i.toNat*s))) b (o+i.toNat*s) s (c-i.toNat) (λj q=>vs (i.toNat+j) q) J (by rw[hl];omega) (by omega) (λj x h=>he x)
   (λq x q2 h hq=>by
    have G:q2<s':=by rw[V h];exact hq
    have:=hI _ _ q2 (Z h) G;rw[V h,Nat.add_mul,←vD o]at this;exact this) (λq x q2 cell h=>hv _ _ q2 cell (Z h))
  rw[hl]at this;exact this
def zpz{x y:Operand}{ts:Array TypeId}{k k':IntKind}{i j:Int}(hx:ev st x=some (.int k i))(Z:ev st y=some (.int k' j)):Pur P C (.call {callee:=.builtin .max,args:= #[x,y],argTypes:=ts}) ty st (.int k (max i j)):=λg a w dst pos af gd hr=>by
 have ex:=y5 (yA hr hx);have ey:=y5 (yA hr Z);refine⟨.int k (if j>i then j else i),?_,?_⟩
 ·simp[execOp,resolve,invoke,builtin,Builtin.max_,Builtin.max2,ex,ey]
 ·have e:(if j>i then j else i)=max i j:=by
   by_cases h:j>i
   ·rw[j6 h];omega
   ·rw[j7 h];omega
  rw[e];exact .int _ _
def zCj{x y:Operand}{ts:Array TypeId}{k k':IntKind}{i j:Int}(hx:ev st x=some (.int k i))(Z:ev st y=some (.int k' j)):Pur P C (.call {callee:=.builtin .min,args:= #[x,y],argTypes:=ts}) ty st (.int k (min i j)):=λg a w dst pos af gd hr=>by
 have ex:=y5 (yA hr hx);have ey:=y5 (yA hr Z);refine⟨.int k (if j<i then j else i),?_,?_⟩
 ·simp[execOp,resolve,invoke,builtin,Builtin.min_,Builtin.min2,ex,ey]
 ·have e:(if j<i then j else i)=min i j:=by
   by_cases h:j<i
   ·rw[j6 h];omega
   ·rw[j7 h];omega
  rw[e];exact .int _ _
end
end Go.Rse
namespace Go.Rse
open Go Go.RowKit
section
variable{P:Program}{C:Ctx}{st:St}{ty:TypeId}{Q:Exit->St->Prop}
abbrev ifV(t:TypeId)(k:IntKind)(n:Int):Value:=.iface t (.agg #[.int k n])
def zsE{I:Im}{ρ:Nat->Value}{k:IntKind}{n:Int}{v:Value}(h:RV I ρ (.agg [.int k n]) v):v=.agg #[.int k n]:=by
 obtain⟨vs,e,hl,hv⟩:=zbK h;subst e
 match vs,hl with
 |[u],_=>
  have:=y5 (hv 0 _ u rfl rfl);subst this;rfl
def zuF{I:Im}{ρ:Nat->Value}(k:IntKind)(n:Int):RV I ρ (.agg [.int k n]) (.agg #[.int k n]):=
 RV.agg [.int k n] [.int k n] rfl λj c v Z hv=>by
  match j with
  |0=>simp at Z hv;subst Z;subst hv;exact .int _ _
  |j+1=>simp at Z
def zl7{t:TypeId}{x:Operand}{k:IntKind}{n:Int}(hx:ev st x=some (.agg [.int k n]))(Z:∃fs,P.underlying t=some (.struct fs)):Pur P C (.makeInterface t x) ty st (.val (ifV t k n)):=λg a w dst pos af gd hr=>by
 have e:=zsE (yA hr hx);obtain⟨fs,Z⟩:=Z;exact⟨_,by simp[execOp,e,Instr.makeInterface,run_underlying Z],.val _⟩
def zka{t T:TypeId}{v:Value}(Z:∃ms,P.underlying T=some (.interface ms))(w:World):(Op.equal T (.iface t v) .nilIface).run P w=.ok false w:=by
 obtain⟨ms,Z⟩:=Z;unfold Op.equal;rw[show Op.maxDepth=9999+1 from rfl];unfold Op.equalIn;simp[run_underlying Z]
def zh7{T:TypeId}(Z:∃ms,P.underlying T=some (.interface ms))(w:World):(Op.equal T .nilIface .nilIface).run P w=.ok true w:=by
 obtain⟨ms,Z⟩:=Z;unfold Op.equal;rw[show Op.maxDepth=9999+1 from rfl];unfold Op.equalIn;simp[run_underlying Z]
def znd{t T:TypeId}{v:Value}{x:Operand}{yt:TypeId}(Z:∃ms,P.underlying T=some (.interface ms))(hx:ev st x=some (.val (.iface t v))):Pur P C (.binOp .neq T x (.const .nilIface) yt) ty st (.bool true):=λg a w dst pos af gd hr=>by
 have e:=zbg (yA hr hx);have e0:a.eval (.const .nilIface)=.nilIface:=rfl;refine⟨.bool true,?_,.bool _⟩;have V:(eqGuard .neq T x (.const .nilIface) (.iface t v) .nilIface).run P w=.ok () w:=by unfold eqGuard;simp
 simp only[execOp,e,e0,jP,V,jI,binOp,zka Z,jU];rfl
def zjL{T:TypeId}{x:Operand}{yt:TypeId}(Z:∃ms,P.underlying T=some (.interface ms))(hx:ev st x=some (.val .nilIface)):Pur P C (.binOp .neq T x (.const .nilIface) yt) ty st (.bool false):=λg a w dst pos af gd hr=>by
 have e:=zbg (yA hr hx);have e0:a.eval (.const .nilIface)=.nilIface:=rfl;refine⟨.bool false,?_,.bool _⟩;have V:(eqGuard .neq T x (.const .nilIface) .nilIface .nilIface).run P w=.ok () w:=by unfold eqGuard;simp
 simp only[execOp,e,e0,jP,V,jI,binOp,zh7 Z,jU];rfl
def zkb{t xT:TypeId}{x:Operand}{k:IntKind}{n:Int}(hx:ev st x=some (.val (ifV t k n)))(V:∃fs,P.underlying t=some (.struct fs)):Pur P C (.typeAssert x xT t true) ty st (.tup [.agg [.int k n],.bool true]):=λg a w dst pos af gd hr=>by
 have e:=zbg (yA hr hx);obtain⟨fs,V⟩:=V;refine⟨.tuple #[.agg #[.int k n],.bool true],by simp[execOp,e,Instr.typeAssert,run_underlying V],?_⟩
 exact RV.tup [.agg [.int k n],.bool true] [.agg #[.int k n],.bool true] rfl λj c v Z hv=>by
  match j with
  |0=>simp at Z hv;subst Z;subst hv;exact zuF _ _
  |1=>simp at Z hv;subst Z;subst hv;exact .bool _
  |j+2=>simp at Z
abbrev pnc(v:Value):Exit:=.panic [{v:=v,recovered:=false}]
def Ex.panic{ops:Array Oper}{rest:List Oper}{dst:Option Tmp}{pos:String}{af:Array Edge}{x:Operand}{t:TypeId}{u:Value}(Z:Q (pnc (.iface t u)) st)(hx:ev st x=some (.val (.iface t u)):=by exact rfl):
 Ex P C ops ({dst:=dst,op:=.panic x,type:=ty,pos:=pos,after:=af,guard:=none}::rest) st Q:=λg a w hr=>
 wpListIn_plain rfl λK V=>⟨λf _=>C.F_fn f,by
  have e:=zbg (yA hr hx);rw[Oper.semAt_eq _ _ _ (by simp)];have:(execOp a.eval {dst:=dst,op:=.panic x,type:=ty,pos:=pos,after:=af,guard:=none}).run P w=.halt (.panic (.iface t u)) w:=by simp[execOp,e,Instr.panic,goPanic]
  rw[this];exact⟨st,g,hr,Z⟩⟩
def FnP(P:Program)(f:FuncId)(as:List AV)(hs:List (Nat×Blk))(kp:List Nat)(pv:Value)(hs':List (Nat×Blk)):Prop:=
 FnR P f as hs kp (λe v=>e=.panicked [{v:=pv,recovered:=false}]) (.tup []) hs'
def zuG{ops:Array Oper}{rest:List Oper}{dst:Option Tmp}{pos:String}{af:Array Edge}{fop:Operand}{args:Array Operand}{ts:Array TypeId}{f:FuncId}{caps xs ass:List AV}{hs Z:List (Nat×Blk)}{kp:List Nat}{pv:Value}
 (μ:List (Nat×Nat))(h:FnP P f ass hs kp pv Z)(hf:ev st fop=some (.fn f caps))(hx:evs st args.toList=some xs)(hμ:biOk μ=true)(T:LeL (xs++caps) (ass.map (AV.ren μ)))(N:ass.all (AV.okN (keys hs))=true)
 (J:zaN st μ (keys hs) hs)(V:∀p∈Z,(fwd μ p.1).isSome=true/\p.2.okNB (keys Z)=true)(U:∀p∈μ,kp.any (·.beq p.1)=true\/(hs.any (·.1.beq p.1)=true/\Z.any (·.1.beq p.1)=false)\/(hs.any (·.1.beq p.1)=false/\st.fr p.2=true))
 (H:∀n∈kp,hs.any (·.1.beq n)=true)(E:Q (pnc pv) (zbP st μ hs Z none (.tup []))):
 Ex P C ops ({dst:=dst,op:=.call {callee:=.value fop,args:=args,argTypes:=ts},type:=ty,pos:=pos,after:=af,guard:=none}::rest) st Q:=λg a w hr=>
 wpListIn_plain rfl λK hK=>⟨λf _=>C.F_fn f,by
  obtain⟨A,e2,h0⟩:=zhu (dst:=none) (ty:=ty) (ts:=ts) μ h hf hx hμ T N rfl J V U H rfl hr;rw[Oper.semAt_eq _ _ _ (by simp)];have e3:(execOp a.eval {dst:=dst,op:=.call {callee:=.value fop,args:=args,argTypes:=ts},type:=ty,pos:=pos,after:=af,guard:=none}).run P w=.ok (.enter f A) w:=e2 pos af none;rw[e3];refine⟨λhx=>by rw[C.F_depth]at hx;simp at hx,?_⟩;refine CallsIn.mono (C.calls h0) ?_
  rintro e w''⟨v,g',rfl,G⟩
  exact⟨_,g',G,E⟩⟩
def zy9{ops:Array Oper}{rest:List Oper}{dst:Option Tmp}{pos:String}{af:Array Edge}{fop:Operand}{args:Array Operand}{ts:Array TypeId}{f:FuncId}{caps xs as':List AV}{hs Z:List (Nat×Blk)}{kp:List Nat}{pv:Value}
 (μ:List (Nat×Nat))(h:FnP P f as' hs kp pv Z)(E:Q (pnc pv) (zbP st μ hs Z none (.tup [])))(hf:ev st fop=some (.fn f caps):=by exact rfl)(hx:evs st args.toList=some xs:=by exact rfl)(hμ:biOk μ=true:=by exact rfl)(T:LeL (xs++caps) (as'.map (AV.ren μ)):=by exact LeL.refl _)(N:as'.all (AV.okN (keys hs))=true:=by exact rfl)
 (J:zaN st μ (keys hs) hs:=by repeat'(first|exact True.intro|refine And.intro ⟨_,_,rfl,rfl,LeB.refl _,rfl⟩ ?_))(V:(Z.all λp=>(fwd μ p.1).isSome&&p.2.okNB (keys Z))=true:=by exact rfl)
 (U:(μ.all λp=>kp.any (·.beq p.1)||(hs.any (·.1.beq p.1)&&!(Z.any (·.1.beq p.1)))||(!(hs.any (·.1.beq p.1))&&st.fr p.2))=true:=by exact rfl)
 (H:(kp.all λn=>hs.any (·.1.beq n))=true:=by exact rfl):
 Ex P C ops ({dst:=dst,op:=.call {callee:=.value fop,args:=args,argTypes:=ts},type:=ty,pos:=pos,after:=af,guard:=none}::rest) st Q:=by
 refine zuG μ h hf hx hμ T N J (λp G=>?_) (λp G=>?_) (λn hn=>jF.1 H n hn) E
 ·have:=jF.1 V p G;simpa using this
 ·have:=jF.1 U p G;simp only[wJ,jA,wL]at this;rcases this with(h1|h1)|h1
  ·exact .inl h1
  ·exact .inr (.inl h1)
  ·exact .inr (.inr h1)
end
def XW(P:Program)(C:Ctx)(c:Code)(st:St)(K:Exit->Act->World->Prop):Prop:=∀g a w,Rel C st g a w->c.wpIn C.F 0 P K a w
def QW(C:Ctx)(K:Exit->Act->World->Prop):Exit->St->Prop:=λe st=>∀g a w,Rel C st g a w->K e a w
section
variable{P:Program}{C:Ctx}{st:St}{K:Exit->Act->World->Prop}
def XW.of{c:Code}(h:X P C c st (QW C K)):XW P C c st K:=λg a w hr=>wpIn_mono (h g a w hr) λe a w⟨st,g,hr,q⟩=>q g a w hr
def XW.seq{x y:Code}(h:X P C x st (zdK (λst=>XW P C y st K) (QW C K))):XW P C (.seq x y) st K:=λg a w hr=>
 wpIn_seq (wpIn_mono (h g a w hr) λe a w⟨st,g,hr,q⟩=>by
  cases e<;>exact q g a w hr)
def XW.defer{id:Nat}{t:Nat}{f:FuncId}{cs:Array Operand}{xs:List AV}{ty1 ty2:TypeId}{p1 p2:String}{af1 af2:Array Edge}{ts:Array TypeId}{c:Code}(kD:Nat)
 (h:∀us,XW P {C with df:=[(.func f,us, #[])]} c ⟨(t,.fn f xs)::st.t,(kD,.hold us.toList xs)::st.h⟩ K)(T:C.rd=none:=by rfl)(hx:cs.toList.mapM (ev st)=some xs:=by exact rfl)(ht:t.blt C.n=true:=by rfl)(N:C.df=[]:=by rfl):
 XW P C (.seq (.region id #[{dst:=some t,op:=.makeFunc (.func f) #[] cs,type:=ty1,pos:=p1,after:=af1,guard:=none},{dst:=none,op:=.defer {callee:=.value (.tmp t),args:= #[],argTypes:=ts},type:=ty2,pos:=p2,after:=af2,guard:=none}] false) c) st K:=λg a w hr=>
 wpIn_seq<|wpIn_region_lit (l:=[_,_])<|wpListIn_plain rfl λK1 J=>zaz<|by
  have hF:C.F.round=none:=by unfold Ctx.F;rw[T];rfl
  obtain⟨v,h1,E⟩:=zgj (ty:=ty1) hx g a w (some t) p1 af1 none hr;unfold wp1;rw[h1];refine J _ _ ?_;obtain⟨us,e,hl,hu⟩:=zcY E;subst e;have U:t<a.tmps.size:=by rw[hr.size];simpa using ht
  have H:(a.put (some t) (.func (.func f) #[] us.toArray)).eval (.tmp t)=.func (.func f) #[] us.toArray:=by
   show(a.put (some t) (.func (.func f) #[] us.toArray)).tmps.getD t undef=_;rw[zaT U,j6 rfl]
  refine wpListIn_plain rfl λK2 G=>⟨λf _=>C.F_fn f,?_⟩
  rw[hF,Oper.semAt_none]
  have h3:(execOp (a.put (some t) (.func (.func f) #[] us.toArray)).eval {dst:=none,op:=.defer {callee:=.value (.tmp t),args:= #[],argTypes:=ts},type:=ty2,pos:=p2,after:=af2,guard:=none}).run P w=.ok (.defer {target:=.fn (.func f) us.toArray,args:= #[]}) w:=by
   simp only[execOp,resolve,H,Deferred.ofValue,jP,jU,jI];simp
  rw[h3];refine G _ _ (wpListIn_nil ?_);refine h us.toArray g _ w ?_;refine⟨by simp[Act.put,hr.size],?_,λt' x Z=>?_,⟨hr.sat.im,hr.sat.ob,λk B V=>?_⟩,⟨hr.ext.I,hr.ext.os,hr.ext.tape,hr.ext.output,hr.ext.drawn,hr.ext.size,hr.ext.keep,hr.ext.own⟩⟩
  ·obtain⟨D,p1,p2,p3⟩:=hr.defers;obtain⟨D1,D2,rfl,q⟩:=p1;rw[N]at q;refine⟨D1++D2,⟨[],D1++D2,rfl,?_⟩,p2,p3⟩;show{target:=.fn (.func f) us.toArray,args:= #[]}::a.defers=_;rw[q];simp[dfD]
  ·show RV g.I g.ρ x ((a.put (some t) (.func (.func f) #[] us.toArray)).tmps.getD t' undef);rw[zaT U];simp only[yq]at Z;by_cases e:t=t'
   ·subst e;simp at Z;subst Z;rw[j6 rfl];exact E
   ·rw[j7 e];have:t.beq t'=false:=beqF.2 e;simp[this]at Z;exact hr.tmps t' x Z
  ·simp only[yq]at V;cases hb:kD.beq k
   ·simp only[hb,cond_false]at V;have:=hr.sat.blk k B V;cases B<;>exact this
   ·simp only[hb,cond_true]at V;injection V with V;subst V;exact⟨by simpa using hl,λj c v hc hv=>hu j c v hc (by simpa using hv)⟩
end
def zza{C:Ctx}{ds:List Deferred}{D:List Nat}{x:Nat}(h:Sh C (mkD x::ds) D):∃D',D=x::D'/\Sh C ds D':=by
 obtain⟨D1,D2,rfl,h⟩:=h;cases D1 with
 |cons e r=>
  simp only[uG,uL,xY]at h;obtain⟨h1,V⟩:=h;have:=zpo h1;subst this;exact⟨r++D2,rfl,r,D2,rfl,V⟩
 |nil=>
  cases Z:C.df with
  |nil=>
   rw[Z]at h;cases D2 with
   |nil=>simp at h
   |cons e r=>
    simp only[xM,vE,uG,xY]at h;obtain⟨h1,V⟩:=h;have:=zpo h1;subst this;exact⟨r,rfl,[],r,rfl,by rw[Z];simpa using V⟩
  |cons e r=>
   rw[Z]at h;simp only[xM,vE,uG,uL,xY]at h;exact absurd (j9 Deferred.target h.1) (by simp[dfD,mkD])
def zhO{C:Ctx}{P:Program}{st:St}{tmps:Array Value}{x:Nat}{ds:List Deferred}{g:Gh}{w:World}(hr:Rel C st g {tmps:=tmps,defers:=mkD x::ds} w):∃w',(Instr.takeDeferred x).run P w=.ok [] w'/\Rel C st g {tmps:=tmps,defers:=ds} w':=by
 obtain⟨D,hD,U,T⟩:=hr.defers;obtain⟨D',rfl,E⟩:=zza (show Sh C (mkD x::ds) D from hD);obtain⟨h1,h2,h3⟩:=T x (by simp);have xT:x<w.heap.size:=zg h1;let w':World:={w with heap:=w.heap.setIfInBounds x (.deferred none)}
 have hm:w.grownBy w' (some x):=⟨rfl,rfl,rfl,by simp[w'],λk hk Z=>by
  have:x≠k:=λe=>Z (by rw[e])
  simp[w',this]⟩
 refine⟨w',run_takeDeferred h1,?_⟩
 have N:∀b o u,g.I b o=some u->w'.cell? ⟨b,o,none⟩=some u/\g.O b=none:=λb o u hI=>by
  obtain⟨V,J⟩:=hr.sat.im b o u hI;refine⟨?_,J⟩
  have Z:b≠x:=λe=>by
   subst e;simp only[World.cell?,h1]at V;simp at V
  rw[World.cell?_of_block (w:=w) (a:=⟨b,o,none⟩) (hm.block b (zcy V) (by simpa using Z))];exact V
 have H:ObO g.I g.O w':=hr.sat.ob.up (Im.le_refl _) hm.size;refine⟨hr.size,⟨D',E,(vF.1 U).2,λy hy=>?_⟩,hr.tmps,⟨N,H,λk B hB=>(hr.sat.blk k B hB).farN hm (jE _) h2 h3 ⟨N,H⟩⟩,?_⟩
 ·obtain⟨V,J,h6⟩:=T y (by simp[hy]);have G:y<w.heap.size:=zg V;have Z:y≠x:=λe=>(vF.1 U).1 (e▸hy)
  exact⟨(hm.block y G (by simpa using Z)).trans V,J,h6⟩
 ·exact⟨hr.ext.I,hm.os.trans hr.ext.os,hm.tape.trans hr.ext.tape,hm.output.trans hr.ext.output,hr.ext.drawn,jT hr.ext.size hm.size,λb hb hn ho=>by
   have Z:b≠x:=λe=>by subst e;omega
   obtain⟨V,J⟩:=hr.ext.keep b hb hn ho;exact⟨(hm.block b (w6 hb hr.ext.size) (by simpa using Z)).trans V,J⟩,hr.ext.own⟩
def zfo{C:Ctx}{P:Program}{fn:Func}{R:Ending->World->Prop}{st:St}{tmps:Array Value}{u:FrameMode}(Z:u≠.run){tl:List Deferred}(V:∀g w,Rel C st g {tmps:=tmps,defers:=tl} w->LeavesInM Fence.wide 0 P fn tmps R tl u w):
 ∀(D1:List Nat){g:Gh}{w:World},Rel C st g {tmps:=tmps,defers:=D1.map mkD++tl} w->LeavesInM Fence.wide 0 P fn tmps R (D1.map mkD++tl) u w
 |[],g,w,hr=>V g w hr
 |x::D1,g,w,hr=>by
  obtain⟨w',h1,U⟩:=zhO (P:=P) (x:=x) (ds:=D1.map mkD++tl) hr;exact⟨Z,.inl ⟨x,w',rfl,h1,zfo Z V D1 U⟩⟩
abbrev Ctx.bare(C:Ctx):Ctx:={C with df:=[]}
def zn8{C:Ctx}{st:St}{g:Gh}{a:Act}{w:World}(h:Rel C st g a w){E:List Nat}{ds:List Deferred}(he:a.defers=ds)(hs:Sh C a.defers E){tl:List Nat}(ht:∀r∈tl,r∈E)(hn:tl.Nodup):Rel C.bare st g {a with defers:=tl.map mkD} w:=by
 obtain⟨D,h1,U,Z⟩:=h.defers;refine⟨h.size,⟨tl,⟨[],tl,rfl,by simp⟩,hn,λr hr=>Z r (h1.mem.1 (hs.mem.2 (ht r hr)))⟩,h.tmps,⟨h.sat.im,h.sat.ob,λk B V=>?_⟩,⟨h.ext.I,h.ext.os,h.ext.tape,h.ext.output,h.ext.drawn,h.ext.size,h.ext.keep,h.ext.own⟩⟩;have:=h.sat.blk k B V;cases B<;>exact this
def zkc{C:Ctx}{P:Program}{fn:Func}{rv:List ResultVar}{r:AV}{R:Ending->World->Prop}(G:fn.results=rv.toArray){st stf:St}(T:RetVs P stf rv r){tmps:Array Value}{cl:FuncId}{us:Array Value}{u u':FrameMode}
 (N:C.df=[(.func cl,us, #[])])(hu:u≠.run)(J:settle u'=.returning)(hok:zan P cl=true)
 (Z:∀g a w,Rel C.bare st g a w->CallsDIn Fence.wide 0 P cl us u w λe um w'=>um=u'/\∃v g',e=.returned v/\Rel C.bare stf g' a w')
 (hR:∀g w v,Rel C.bare stf g {tmps:=tmps,defers:=[]} w->RV g.I g.ρ r v->R (.returned v) w){g:Gh}{w:World}{ds:List Deferred}(hr:Rel C st g {tmps:=tmps,defers:=ds} w):LeavesInM Fence.wide 0 P fn tmps R ds u w:=by
 obtain⟨D,hD,E,x1⟩:=hr.defers;have x0:=hD;obtain⟨D1,D2,rfl,e⟩:=hD;simp only at e;subst e;refine zfo hu (λg1 w1 V=>?_) D1 hr;rw[N]at V⊢;simp only[uG,xM,uL,vE]at V⊢;have xT:Sh C (dfD (.func cl,us, #[])::D2.map mkD) D2:=⟨[],D2,rfl,by rw[N];rfl⟩;have hb:=zn8 V rfl xT (tl:=D2) (λr h=>h) (vL.1 E).2.1;refine⟨hu,.inr ⟨λh=>absurd h (by decide),.func cl,us,cl,us,rfl,?_,λ_ _=>trivial,?_⟩⟩
 ·show(invoke (dfD (.func cl,us, #[])).target (dfD (.func cl,us, #[])).args).run P w1=_;simp only[dfD,invoke,zV hok];simp
 ·obtain⟨h1,h2⟩:=Z g1 _ w1 hb;refine⟨h1,λc cs hc U=>?_⟩;obtain⟨e,um,w',fr,⟨rfl,v,g',rfl,x4⟩,h3⟩:=h2 c cs hc U;refine⟨.returned v,um,w',fr,?_,h3⟩;show LeavesInM Fence.wide 0 P fn tmps R (D2.map mkD) (settle um) w';rw[J];have:=zfo (C:=C.bare) (P:=P) (fn:=fn) (R:=R) (st:=stf) (tmps:=tmps) (u:=.returning) (by simp) (tl:=[]) (λg3 w3 H=>?_) D2 (g:=g') (w:=w') (by rw[wO];exact x4)
  ·rw[wO]at this;exact this
  ·obtain⟨x,x3,x2⟩:=zhM H G T;exact⟨x,x3,hR g3 w3 x H x2⟩
def EndF(g:Gh)(w:World)(r:AV):Ending->World->Prop:=λe w'=>∃v g',e=.returned v/\RV g'.I noNames r v/\Add none g w g' w'/\ImOB g' w'
def EndF.of{n d:Nat}{g:Gh}{w w3:World}{r:AV}{g3:Gh}{st:St}{a:Act}{v:Value}(hnm:r.nm=true)(N:∀b n,g.O b≠some (d,n))(Z:Rel (C0 n d ⟨noNames,g.I,g.O⟩ w) st g3 a w3)(hv:RV g3.I g3.ρ r v):EndF g w r (.returned v) w3:=by
 have U:∀b,b<w.heap.size->¬(C0 n d ⟨noNames,g.I,g.O⟩ w).okb b:=λb H hk=>by
  rcases hk with hk|⟨m,hk⟩
  ·simp at hk;omega
  ·exact N b m hk
 have T:∀b,¬(C0 n d ⟨noNames,g.I,g.O⟩ w).oth b:=λb⟨y,m,J,_⟩=>by simp at J
 refine⟨v,{ρ:=g.ρ,I:=g3.I,O:=g3.O},rfl,hv.forget hnm,⟨Z.ext.I,λ_ _=>rfl,λb V=>?_,⟨Z.ext.os,Z.ext.tape,Z.ext.output,Z.ext.drawn,Z.ext.size,λb V=>?_⟩⟩,⟨Z.sat.im,Z.sat.ob⟩⟩
 ·exact(Z.ext.keep b V (U b V) (T b)).2
 ·exact(Z.ext.keep b V (U b V) (T b)).1
def zsF(P:Program)(fn:Func)(d:Nat)(g:Gh)(w:World)(r:AV):Exit->Act->World->Prop:=λe a w'=>(∀b n,g.O b≠some (d,n))->bodyPostM Fence.wide 0 P fn (EndF g w r) e a w'
def zkN{P:Program}{f:FuncId}{fn:Func}{c:Code}{n:Nat}{as:List AV}{ts:List (Nat×AV)}{r:AV}(J:zan P f=true)(hf:P.funcs[f]? =some fn)(H:fn.body=some c)(hn:fn.ntmps=n)
 (hnm:r.nm=true)(N:zbx 0 as=ts)(V:as.length<=n)(h:∀g w d,XW P (C0 n d ⟨noNames,g.I,g.O⟩ w) c ⟨ts,[]⟩ (zsF P fn d g w r)):Fn P f as r:=by
 refine⟨J,hnm,λg w args U Z=>(callsIn_wide (n:=0)).1 (callsIn_of_wp_marks hf H trivial ?_)⟩;subst N;obtain⟨d,G,-⟩:=zc5 g.O w.heap.size [] U.2.1;have T:=zfm (C:=C0 n d ⟨noNames,g.I,g.O⟩ w) (I:=g.I) (O:=g.O) (m:=fn.ntmps) rfl rfl hn V U Z;exact wpIn_mono (h g w d _ _ w T) λe a w' E=>E G
def zsF.plain{P:Program}{fn:Func}{n d:Nat}{g:Gh}{w:World}{r:AV}{rv:List ResultVar}{e:Exit}{st:St}(N:fn.results=rv.toArray)(hnm:r.nm=true)(h:RetQ P (C0 n d ⟨noNames,g.I,g.O⟩ w) rv r e st):QW (C0 n d ⟨noNames,g.I,g.O⟩ w) (zsF P fn d g w r) e st:=λg1 a w1 hr E=>by
 obtain⟨he,st',V,U⟩:=h;obtain⟨g2,Z⟩:=V g1 a w1 hr
 have T:LeavesInM Fence.wide 0 P fn a.tmps (EndF g w r) a.defers .returning w1:=by
  obtain⟨D,hD,J,H⟩:=Z.defers;exact zaW N U rfl (λg3 w3 v G hv=>EndF.of hnm E G hv) D hD.plain J H ⟨Z.size,Dfs.nil _ _ _,Z.tmps,Z.sat,Z.ext⟩
 rcases he with rfl|rfl<;>exact T
def FnD(P:Program)(f:FuncId)(as:List AV)(hs:List (Nat×Blk))(kp:List Nat)(u u':FrameMode)(hs':List (Nat×Blk)):Prop:=
 zan P f=true/\∀(d:Nat)(ρ:Nat->Value)(I:Im)(O:Owns)(w:World)(args:List Value),Sat (C0 0 d ⟨ρ,I,O⟩ w) hs ⟨ρ,I,O⟩ w->RVL I ρ as args→
  CallsDIn Fence.wide 0 P f args.toArray u w λe um w'=>um=u'/\∃v ρ' I' O',e=.returned v/\Sat (C0 0 d ⟨ρ,I,O⟩ w) hs' ⟨ρ',I',O'⟩ w'/\RV I' ρ' (.tup []) v/\Ext (C0 0 d ⟨ρ,I,O⟩ w) ⟨ρ',I',O'⟩ w'/\∀n∈kp,ρ' n=ρ n
def FnD.call{P:Program}{C:Ctx}{st:St}{f:FuncId}{as:List AV}{hs Z:List (Nat×Blk)}{kp:List Nat}{u u':FrameMode}{vals:List Value}
 (μ:List (Nat×Nat))(h:FnD P f as hs kp u u' Z)(hμ:biOk μ=true)(H:as.all (AV.okN (keys hs))=true)(G:zaN st μ (keys hs) hs)(U:∀p∈Z,(fwd μ p.1).isSome=true/\p.2.okNB (keys Z)=true)
 (N:∀p∈μ,kp.any (·.beq p.1)=true\/(hs.any (·.1.beq p.1)=true/\Z.any (·.1.beq p.1)=false)\/(hs.any (·.1.beq p.1)=false/\st.fr p.2=true))(xT:∀n∈kp,hs.any (·.1.beq n)=true){g:Gh}{a:Act}{w:World}(hr:Rel C st g a w)(J:RVL g.I g.ρ (as.map (AV.ren μ)) vals):
 CallsDIn Fence.wide 0 P f vals.toArray u w λe um w'=>um=u'/\∃v g',e=.returned v/\Rel C (zbP st μ hs Z none (.tup [])) g' a w':=by
 have:=zn4 (T:=λA w R=>CallsDIn Fence.wide 0 P f A u w λe um w'=>um=u'/\R e w') (E:=λe v=>e=.returned v) (dst:=none)
  (λ{A w R R'}h1 h2=>⟨h1.1,λc cs hc V=>let⟨e,um,w',fr,⟨q1,q2⟩,q3⟩:=h1.2 c cs hc V;⟨e,um,w',fr,⟨q1,h2 e w' q2⟩,q3⟩⟩) μ h.2 hμ H rfl G U N xT rfl hr J
 exact this
def zdu{P:Program}{fn:Func}{n d:Nat}{g:Gh}{w:World}{r:AV}{rv:List ResultVar}{e:Exit}{st st':St}{cl:FuncId}{us:Array Value}{as xs:List AV}{hs Z:List (Nat×Blk)}{kp:List Nat}{u u':FrameMode}{kD:Nat}(μ:List (Nat×Nat))(h:FnD P cl as hs kp u u' Z)
 (he:(e=.ret/\u=.returning)\/(e=.normal/\u=.returning)\/∃ch,e=.panic ch/\u=.panicking ch)(G:fn.results=rv.toArray)(hnm:r.nm=true)(hi:Imp {C0 n d ⟨noNames,g.I,g.O⟩ w with df:=[(.func cl,us, #[])]} st st')(hD:lk st'.h kD=some (.hold us.toList xs))(E:LeL xs (as.map (AV.ren μ)))
 (U:RetVs P (zbP st' μ hs Z none (.tup [])) rv r)(T:settle u'=.returning)
 (hμ:biOk μ=true)(xT:as.all (AV.okN (keys hs))=true)(x4:zaN st' μ (keys hs) hs)(N:(Z.all λp=>(fwd μ p.1).isSome&&p.2.okNB (keys Z))=true)
 (J:(μ.all λp=>kp.any (·.beq p.1)||(hs.any (·.1.beq p.1)&&!(Z.any (·.1.beq p.1)))||(!(hs.any (·.1.beq p.1))&&st'.fr p.2))=true)(x3:(kp.all λn=>hs.any (·.1.beq n))=true):
 QW {C0 n d ⟨noNames,g.I,g.O⟩ w with df:=[(.func cl,us, #[])]} (zsF P fn d g w r) e st:=λg1 a w1 hr hd=>by
 obtain⟨g2,x2⟩:=hi g1 a w1 hr
 have H:LeavesInM Fence.wide 0 P fn a.tmps (EndF g w r) a.defers u w1:=by
  refine zkc (C:={C0 n d ⟨noNames,g.I,g.O⟩ w with df:=[(.func cl,us, #[])]}) G U rfl (by rcases he with⟨_,rfl⟩|⟨_,rfl⟩|⟨ch,_,rfl⟩<;>simp) T h.1 (λg3 a3 w3 V=>?_) (λg3 w3 v V hv=>EndF.of hnm hd V hv) x2;have hh:=V.sat.blk kD _ hD
  have:=h.call μ hμ xT x4 (λp hp=>by have:=jF.1 N p hp;simpa using this) (λp hp=>by
   have:=jF.1 J p hp;simp only[wJ,jA,wL]at this;rcases this with(h1|h1)|h1
   ·exact .inl h1
   ·exact .inr (.inl h1)
   ·exact .inr (.inr h1)) (λn hn=>jF.1 x3 n hn) V (E.rvl (vs:=us.toList) hh)
  exact this
 rcases he with⟨rfl,rfl⟩|⟨rfl,rfl⟩|⟨ch,rfl,rfl⟩<;>exact H
def zkO{C:Ctx}{P:Program}{st:St}{tmps:Array Value}:∀(D:List Nat){g:Gh}{w:World}(fr:Frame)(cs:List Frame),fr.mode≠.run->fr.defers=D.map mkD->Rel C st g {tmps:=tmps,defers:=D.map mkD} w→
 ∃w',Rel C st g {tmps:=tmps,defers:=[]} w'/\StepsIn (Machine.fenced P Fence.wide) P (lone fr cs w) (lone {fr with defers:=[]} cs w')
 |[],g,w,fr,cs,hm,Z,hr=>⟨w,hr,by
  have:{fr with defers:=[]}=fr:=by
   have e:fr.defers=[]:=Z;rw[←e]
  rw[this];exact StepsIn.refl _⟩
 |x::D,g,w,fr,cs,hm,Z,hr=>by
  obtain⟨w1,h1,V⟩:=zhO (P:=P) (x:=x) (ds:=D.map mkD) hr;obtain⟨w',U,T⟩:=zkO D {fr with defers:=[]++D.map mkD} cs hm rfl V;refine⟨w',U,StepsIn.trans (.one ?_ (step_collected (cs:=cs) hm (d:=mkD x) (ds:=D.map mkD) Z rfl h1)) T⟩;exact fenced_out (n:=0) trivial (by simp[Fence.room,Fence.wide]) hm Z (λg N=>by simp[mkD,Target.leads]at N)
def zpA(C:Ctx)(c0:Frame)(cs:List Frame)(Q:FrameMode->Exit->St->Prop):Exit->Act->List Frame->World->Prop:=λe a cs' w=>∃um st g,cs'={c0 with mode:=um}::cs/\Rel C st g a w/\Q um e st
def XS(P:Program)(C:Ctx)(c:Code)(u:FrameMode)(st:St)(Q:FrameMode->Exit->St->Prop):Prop:=∀g a w,Rel C st g a w->∀(c0:Frame)(cs:List Frame),c0.mode=u->c.wpSIn Fence.wide 0 P (zpA C c0 cs Q) a (c0::cs) w
section
variable{P:Program}{C:Ctx}{st:St}{Q:FrameMode->Exit->St->Prop}{u:FrameMode}
def zjM{F:Fence}{n:Nat}{c:Code}{Q Q':Exit->Act->List Frame->World->Prop}{a:Act}{cs:List Frame}{w:World}(h:c.wpSIn F n P Q a cs w)(Z:∀e a cs w,Q e a cs w->Q' e a cs w):c.wpSIn F n P Q' a cs w:=
 λb k h1 V U T=>let⟨e,a',cs',w',l,q,r⟩:=h b k h1 V U T;⟨e,a',cs',w',l,Z _ _ _ _ q,r⟩
def XS.of{c:Code}(h:X P C c st (Q u))(Z:C.rd=none:=by rfl):XS P C c u st Q:=λg a w hr c0 cs V=>
 wpSIn_of_wpIn rfl (by
  have U:C.F=Fence.wide:=by unfold Ctx.F;rw[Z]
  have:=h g a w hr;rw[U]at this;exact wpIn_mono this λe a w⟨st,g,hr,q⟩=>⟨u,st,g,by rw[←V],hr,q⟩)
def XS.seq{x y:Code}(h:XS P C x u st (λum e st=>match e with|.normal=>XS P C y um st Q|e=>Q um e st)):XS P C (.seq x y) u st Q:=λg a w hr c0 cs V=>
 wpSIn_seq (zjM (h g a w hr c0 cs V) λe a cs' w⟨um,st,g,Z,hr,q⟩=>by
  cases e
  case normal=>
   subst Z;have:=q g a w hr {c0 with mode:=um} cs rfl;exact zjM this λe a cs' w h=>h
  all_goals exact⟨um,st,g,Z,hr,q⟩)
def XS.recover{id t t2:Nat}{ts:Array TypeId}{ty1 ty2:TypeId}{p1 p2:String}{af1 af2:Array Edge}{v:Value}{um:FrameMode}(ht:t.blt C.n=true)(J:t2.blt C.n=true)
 (hv:(u=.returning/\um=.returning/\v=.nilIface)\/∃older,u=.panicking ({v:=v,recovered:=false}::older)/\um=.panicking ({v:=v,recovered:=true}::older))
 (h:Q um .normal ⟨(t2,.val v)::(t,.val v)::st.t,st.h⟩):
 XS P C (.region id #[{dst:=some t,op:=.call {callee:=.builtin .recover,args:= #[],argTypes:=ts},type:=ty1,pos:=p1,after:=af1,guard:=none},{dst:=some t2,op:=.assign (.tmp t),type:=ty2,pos:=p2,after:=af2,guard:=none}] false) u st Q:=λg a w hr c0 cs H=>by
 refine wpSIn_region ?_;have T:t<a.tmps.size:=by rw[hr.size];simpa using ht
 have V:∀{a:Act}{st:St}(d:Nat),Rel C st g a w->d<a.tmps.size->Rel C ⟨(d,.val v)::st.t,st.h⟩ g (a.put (some d) v) w:=λ{a st}d hr hd=>by
  refine⟨by simp[Act.put,hr.size],hr.defers,λt' x Z=>?_,hr.sat,hr.ext⟩;show RV g.I g.ρ x ((a.put (some d) v).tmps.getD t' undef);rw[zaT hd];simp only[yq]at Z;by_cases e:d=t'
  ·subst e;simp at Z;subst Z;rw[j6 rfl];exact .val v
  ·rw[j7 e];have:d.beq t'=false:=beqF.2 e;simp[this]at Z;exact hr.tmps t' x Z
 have N:=V t hr T;have G:=V t2 N (by rw[N.size];simpa using J)
 have E:(a.put (some t) v).eval (.tmp t)=v:=by
  show(a.put (some t) v).tmps.getD t undef=_;rw[zaT T,j6 rfl]
 have e1:(execOp a.eval {dst:=some t,op:=.call {callee:=.builtin .recover,args:= #[],argTypes:=ts},type:=ty1,pos:=p1,after:=af1,guard:=none}).run P w=.ok .recover w:=by
  simp[execOp,resolve,invoke,builtin]
 have e2:(execOp (a.put (some t) v).eval {dst:=some t2,op:=.assign (.tmp t),type:=ty2,pos:=p2,after:=af2,guard:=none}).run P w=.ok (.value v) w:=by
  simp only[execOp,E];rfl
 have U:∀cs',cs'={c0 with mode:=um}::cs->zpA C c0 cs Q .normal ((a.put (some t) v).put (some t2) v) cs' w:=λcs' e=>⟨um,_,g,e,G,h⟩
 rcases hv with⟨rfl,rfl,rfl⟩|⟨older,rfl,rfl⟩
 ·have e3:recoverD (c0::cs)=none:=by simp[recoverD,H]
  simp only[Array.size,w8,wQ,List.range,List.range.loop,wpOpsSIn,xS,List.getElem?_cons_zero,xG,Region.wanted,if_true,e1,e2,e3];refine⟨λ_ _=>trivial,λ_ _=>trivial,U _ (by rw[←H])⟩
 ·have e3:recoverD (c0::cs)=some (v,{c0 with mode:=.panicking ({v:=v,recovered:=true}::older)}::cs):=by simp[recoverD,H]
  simp only[Array.size,w8,wQ,List.range,List.range.loop,wpOpsSIn,xS,List.getElem?_cons_zero,xG,Region.wanted,if_true,e1,e2,e3];exact⟨λ_ _=>trivial,λ_ _=>trivial,U _ rfl⟩
end
def zCk(C:Ctx)(u':FrameMode)(vs:List Value)(cs:List AV)(hs':List (Nat×Blk))(um:FrameMode)(e:Exit)(st:St):Prop:=
 um=u'/\(e=.normal\/e=.ret)/\∃ts ex,Imp C st ⟨ts,(kN,.hold vs cs)::(hs'++ex)⟩
def FnD.intro{P:Program}{f:FuncId}{fn:Func}{c:Code}{n:Nat}{az:List AV}{ts:List (Nat×AV)}{hs V:List (Nat×Blk)}{kp:List Nat}{cs:List AV}{u u':FrameMode}(hc:zan P f=true)(hf:P.funcs[f]? =some fn)(hb:fn.body=some c)(hn:fn.ntmps=n)(v9:fn.results= #[])(u4:u'≠.run)
 (v8:zbx 0 az=ts)(v0:az.length<=n)(x3:(V.all λp=>!(p.1.beq kN))=true)(v5:kp.mapM (hdr hs)=some cs)(x2:kp.mapM (hdr V)=some cs)
 (h:∀g w d vs,XS P (C0 n d g w) c u ⟨ts,(kN,.hold vs cs)::hs⟩ (zCk (C0 n d g w) u' vs cs V)):FnD P f az hs kp u u' V:=by
 refine⟨hc,λd ρ I O w args U T=>?_⟩;subst v8;have v4:args.length=az.length:=T.1;let C:=C0 n d ⟨ρ,I,O⟩ w
 have x1:Rel C ⟨zbx 0 az,(kN,.hold (kp.map ρ) cs)::hs⟩ ⟨ρ,I,O⟩ {tmps:=args.toArray++Array.replicate (fn.ntmps-args.toArray.size) undef,defers:=[]} w:=by
  refine⟨by simp[hn,C];omega,Dfs.nil _ _ _,λt x hx=>?_,⟨U.im,U.ob,λk B E=>?_⟩,⟨Im.le_refl _,rfl,rfl,rfl,jE _,jE _,λ_ _ _ _=>⟨rfl,rfl⟩,λb y n _ hy=>⟨n,hy⟩⟩⟩
  ·obtain⟨_,x4⟩:=zc2 (I:=I) (ρ:=ρ) az 0 t x hx;simp only[x6]at x4;have ht:t<args.length:=by rw[v4];exact(j5.1 x4).1
   have e:(args.toArray++Array.replicate (fn.ntmps-args.toArray.size) undef).getD t undef=args[t]:=by
    simp[jM,uU,ht]
   rw[e];exact T.2 t x _ x4 (jB ht)
  ·simp only[yq]at E;cases v3:kN.beq k<;>simp[v3]at E
   ·exact(U.blk k B E).ctx
   ·subst E;exact zg9 (g:=⟨ρ,I,O⟩) U v5
 refine⟨trivial,λc₀ cs0 hu N=>?_⟩;let b:Frame:={(default:Frame)with fn:=f,kind:=.deferred,roundOf:=none}
 have H:Frame.enter P f args.toArray .deferred=
  b.atR {tmps:=args.toArray++Array.replicate (fn.ntmps-args.toArray.size) undef,defers:=[]} [.code c]:=by
  simp[Frame.enter,Frame.atR,hf,hb,b]
 obtain⟨e,a',cs',w',hl,hq,J⟩:=h _ w d _ _ _ w x1 c₀ cs0 hu b [] rfl rfl trivial N;rw[←H]at J;obtain⟨um,st,g1,rfl,v2,rfl,he,ts',ex',x0⟩:=hq;obtain⟨g2,w9⟩:=x0 g1 a' w' v2
 have xT:∀fr:Frame,fr.mode=.returning->fr.defers=a'.defers->fr.tmps=a'.tmps->fr.kind=.deferred->fr.fn=f->∃e u'' w'' fr',(u''=um/\∃v ρ' I' O',e=.returned v/\Sat (C0 0 d ⟨ρ,I,O⟩ w) V ⟨ρ',I',O'⟩ w''/\RV I' ρ' (.tup []) v/\Ext (C0 0 d ⟨ρ,I,O⟩ w) ⟨ρ',I',O'⟩ w''/\∀n∈kp,ρ' n=ρ n)∧
  ComesIn (Machine.fenced P Fence.wide) P (lone fr ({c₀ with mode:=um}::cs0) w') (lone fr' ({c₀ with mode:=u''}::cs0) w'') e/\fr'.kind=.deferred/\fr'.fn=f/\fr'.going P w'' e:=λfr h1 h2 h3 h4 h5=>by
  obtain⟨D,hD,u3,u2⟩:=w9.defers;have G:=hD.plain (C:=C) rfl;have G:a'.defers=D.map mkD:=by rw[G];simp[C]
  obtain⟨w'',Z,v1⟩:=zkO (P:=P) (C:=C) (st:=⟨ts',(kN,.hold (kp.map ρ) cs)::(V++ex')⟩) (tmps:=a'.tmps) D (g:=g2) (w:=w') fr ({c₀ with mode:=um}::cs0) (by rw[h1];simp) (h2.trans G) (by rw[←G];exact w9)
  have w2:Sat (C0 0 d ⟨ρ,I,O⟩ w) V g2 w'':=⟨Z.sat.im,Z.sat.ob,λk B E=>by
   refine(Z.sat.blk k B ?_).ctx
   have:kN.beq k=false:=by
    cases hb:kN.beq k
    ·rfl
    ·have:kN=k:=by simpa using hb
     subst this;rw[zeV x3]at E;simp at E
   simp[yq,this,zcF,E]⟩
  have hh:=Z.sat.blk kN (.hold (kp.map ρ) cs) (by simp[yq]);refine⟨.returned (.tuple #[]),um,w'',{fr with defers:=[]},⟨rfl,.tuple #[],g2.ρ,g2.I,g2.O,rfl,w2,RV.tup [] [] rfl (λj c v hc=>by simp at hc),⟨Z.ext.I,Z.ext.os,Z.ext.tape,Z.ext.output,Z.ext.drawn,Z.ext.size,Z.ext.keep,Z.ext.own⟩,zeU (ρ:=ρ) w2 x2 hh⟩,v1,h4,h5,?_⟩;refine⟨h1,rfl,fn,by rw[h5];exact hf,?_⟩;unfold results;rw[v9];simp
 rcases he with rfl|rfl
 ·obtain⟨e,u'',w'',fr',h1,h2,h3⟩:=xT {b.atR a' []with mode:=.returning} rfl rfl rfl rfl rfl;exact⟨e,u'',w'',fr',h1,ComesIn.of_steps (StepsIn.trans J (.one (fenced_calm (fr:=b.atR a' []) (n:=0) trivial N rfl) (stepR_end rfl))) h2,h3⟩
 ·obtain⟨todo,hs⟩:=J.1 rfl;obtain⟨e,u'',w'',fr',h1,h2,h3⟩:=xT {b.atR a' todo with mode:=.returning} rfl rfl rfl rfl rfl;exact⟨e,u'',w'',fr',h1,ComesIn.of_steps hs h2,h3⟩
end Go.Rse
