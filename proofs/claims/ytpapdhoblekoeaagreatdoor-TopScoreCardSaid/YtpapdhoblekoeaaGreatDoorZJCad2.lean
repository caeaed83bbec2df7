/-
  Walks.
-/
import Derived.Test.YtpapdhoblekoeaaGreatDoorZJSco3
set_option linter.all false
set_option maxHeartbeats 4000000
namespace Go.Rse
open Go Go.Proofs Go.Proofs.Tryz
attribute [local irreducible] Pur yy yu Ex X Fn FnE Imp LeV LeB FnO yA zaJ piN piH evL mget btS btH kput kget tq pf
section
structure Cd where
 At:Tm
 C:Int
 T:Int
 B:Int
 S:Int
 K:Int
def cdE:Cd->List AV:=λc=>[iv c.At.N,iv c.At.D,iv c.C,iv c.T,iv c.B,iv c.S,iv c.K]
def cdU(x:Cd):Int:=x.At.N*16/x.At.D
structure CdK(W:List (List Nu))(x:Cd):Prop where
 w:W.length=2
 c:0<=x.C
 a:∃(V:List Nu)(n:Nat),W[x.C.toNat]? =some V/\n<V.length/\x.At=tq (pf (usV V) n)
def zG8(u:Int):(tq u).N*16/(tq u).D=u:=by
 have h1:=zqf u;rw[h1];rcases zg7 u with e|e|e|e|e<;>rw[e]<;>omega
def CdK.u{W:List (List Nu)}(h:VsK W){x:Cd}(hx:CdK W x):x.At=tq (cdU x)/\Uq (cdU x)/\cdU x<=60000:=by
 obtain⟨V,n,G,hn,N⟩:=hx.a;have e:cdU x=pf (usV V) n:=by unfold cdU;rw[N];exact zG8 _
 have K:=h.k V (j6 G);rw[e];exact⟨N,K.uq n,(K.pf n).2⟩
structure CjK(W:List (List Nu))(p:Nat)(M:List (Tm×Int))(s:Array Nat)(L:List Cd):Prop where
 k:∀x∈L,CdK W x
 c:∀x∈L,x.C<=p
 a:∀x∈L,x.C=p->∃i v,s.contains i=true/\M[i]? =some (x.At,v)
 d:L.Pairwise λx y=>¬(x.C=y.C/\x.At=y.At)
 n:L.length<=60*p+s.size
structure CpK(W:List (List Nu))(p:Nat)(L:List Cd):Prop where
 k:∀x∈L,CdK W x
 c:∀x∈L,x.C<p
 d:L.Pairwise λx y=>¬(x.C=y.C/\x.At=y.At)
 n:L.length<=60*p
def CpK.z(W:List (List Nu)):CpK W 0 []:=⟨ah,ah,ah,ah⟩
def CpK.to{W:List (List Nu)}{p:Nat}{L:List Cd}(h:CpK W p L)(M:List (Tm×Int)):CjK W p M #[] L:=
 ⟨h.k,λx hx=>vV (h.c x hx),λx hx e=>by have:=h.c x hx;omega,h.d,by have:=h.n;simpa using this⟩
def CjK.fin{W:List (List Nu)}{p:Nat}{M:List (Tm×Int)}{s:Array Nat}{L:List Cd}(h:CjK W p M s L)(hs:s.size<=60):CpK W (p+1) L:=
 ⟨h.k,λx hx=>by have:=h.c x hx;omega,h.d,by have:=h.n;omega⟩
def CjK.no{W:List (List Nu)}{p:Nat}{M:List (Tm×Int)}{s:Array Nat}{L:List Cd}(h:CjK W p M s L)(i:Nat):CjK W p M (s.push i) L:=
 ⟨h.k,h.c,λx hx e=>by obtain⟨j,v,h1,N⟩:=h.a x hx e;exact⟨j,v,by rw[Array.contains_push,h1];rfl,N⟩,h.d,by have:=h.n;rw[vG];omega⟩
def CjK.y{W:List (List Nu)}{p:Nat}{M:List (Tm×Int)}{s:Array Nat}{L:List Cd}(h:CjK W p M s L){i:Nat}{v:Int}{x:Cd}(hx:CdK W x)(E:x.C=p)(hi:M[i]? =some (x.At,v))(hs:s.contains i=false)(hM:(M.map (·.1)).Nodup):CjK W p M (s.push i) (L++[x]):=by
 have h':=h.no i;refine⟨λy N=>?_,λy N=>?_,λy N e=>?_,vW.2 ⟨h.d,ah,λy N z hz=>?_⟩,?_⟩
 ·rcases w9.1 N with N|N
  ·exact h.k y N
  ·rw[w6.1 N];exact hx
 ·rcases w9.1 N with N|N
  ·exact h.c y N
  ·rw[w6.1 N];omega
 ·rcases w9.1 N with N|N
  ·exact h'.a y N e
  ·rw[w6.1 N];exact⟨i,v,by rw[Array.contains_push];simp,hi⟩
 ·rw[w6.1 hz]
  rintro⟨e1,e2⟩
  obtain⟨j,u,h1,h2⟩:=h.a y N (e1.trans E);have G:(M.map (·.1))[j]? =some y.At:=by rw[j9,h2];rfl
  have K:(M.map (·.1))[i]? =some x.At:=by rw[j9,hi];rfl
  have:j=i:=(xB (j5.1 G).1 hM).1 (G.trans (by rw[K,e2]));subst this;rw[h1]at hs;cases hs
 ·have:=h.n;rw[jJ,uI,vG];omega
def cdS(L:List Cd):List Cd:=L.mergeSort (leOf λa b:Cd=>lxC (cdU a,a.C,a.T) (cdU b,b.C,b.T))
def ztE{L:List Cd}{x:Cd}:x∈cdS L↔x∈L:=kR
def zBf{s:Int}(h:-62<=s/\s<=62):-62<=s.tdiv 7/\s.tdiv 7<=62:=by
 have h1:=Int.natAbs_tdiv s 7;rw[show(7:Int).natAbs=7 from rfl]at h1;have e:s.natAbs/7<=s.natAbs:=Nat.div_le_self _ _;have N:(s.tdiv 7).natAbs=s.natAbs/7:=h1;omega
def zyB(V:List Nu)(d:Int):((enV V d).map (·.1)).Nodup:=(zuJ V d _).2.1
def zqF{n:Nat}(hn:n<=2):(prX n).length<=2:=by
 match n,hn with
 |0,_=>exact jU _
 |1,_=>exact jU _
 |2,_=>exact jG _
attribute [local irreducible] clK clL kdM enM enV prN prX cdU
def zgU(a b:Cd)(N:a.At=tq (cdU a)/\Uq (cdU a))(K:b.At=tq (cdU b)/\Uq (cdU b)):Fn prog 284 [.agg (cdE a),.agg (cdE b)] (iv (lxC (cdU a,a.C,a.T) (cdU b,b.C,b.T))):=by
 have G:Fn prog 285 [tmA a.At,tmA b.At] (iv (cmpI (cdU a) (cdU b))):=by
  have:=zhV (cdU a) (cdU b) N.2 K.2
  rwa[←N.1,←K.1]at this
 have E:orV [cmpI (cdU a) (cdU b),cmpI a.C b.C,cmpI a.T b.T]=lxC (cdU a,a.C,a.T) (cdU b,b.C,b.T):=rfl;refine bB func284 ntmps284 (λg w d=>?_);refine gq ?_;refine y4 [4,5,6,7,8,9,10,11,12,13,14,15,16,17,18,19,20,21] [0,1,0,4,15,0,32,0,128,511,0,1024,0,4096,16383,32767,65535,131071] mo ?_;iterate 4 refine yb ?_
 refine yI G ?_;iterate 4 refine yb ?_
 refine yI (zm a.C b.C) ?_;iterate 4 refine yb ?_
 refine yI (zm a.T b.T) ?_;refine ChM.step rfl rfl rfl (ztk (enc:=intE) (l:=[cmpI (cdU a) (cdU b),cmpI a.C b.C,cmpI a.T b.T]) sl22 ty3 ze3) rfl ?_;refine yI (zdx [cmpI (cdU a) (cdU b),cmpI a.C b.C,cmpI a.T b.T] ah) ?_;refine yb ?_;refine yD ?_;refine gq ?_;all_goals rw[E]
def zp4{W:List (List Nu)}(h:VsK W){p:Nat}(L:List Cd)(N:CpK W p L)(hl:L.length<=4000000000):
 FnO prog 283 [.own 2000000,.fn 284 []] [(2000000,.row cdE L 427 7)] [2000000] (.tup []) [(2000000,.row cdE (cdS L) 427 7)]:=
 zkW zlT ae cdE 7 ac _ L hl _ (λa=>(cdU a,a.C,a.T)) Tryz.isAgg427 Tryz.sizeOf427 (λ_=>rfl)
  (λt c E=>by simp[cdE]at E;rcases E with rfl|rfl|rfl|rfl|rfl|rfl|rfl<;>rfl) (λx hx y K=>zgU x y ⟨((N.k x hx).u h).1,((N.k x hx).u h).2.1⟩ ⟨((N.k y K).u h).1,((N.k y K).u h).2.1⟩)
  (λx hx y K e=>by
   simp only[Prod.mk.injEq]at e;obtain⟨e1,e2,-⟩:=e;have e3:x.At=y.At:=by rw[((N.k x hx).u h).1,((N.k y K).u h).1,e1]
   obtain⟨i,hi⟩:=jL.1 hx;obtain⟨j,G⟩:=jL.1 K;have li:=(j5.1 hi).1;have lj:=(j5.1 G).1;rcases Nat.lt_trichotomy i j with c|c|c
   ·have:=wF.1 N.d i j li lj c;rw[(j5.1 hi).2,(j5.1 G).2]at this;exact absurd ⟨e2,e3⟩ this
   ·subst c;rw[hi]at G;injection G
   ·have:=wF.1 N.d j i lj li c;rw[(j5.1 hi).2,(j5.1 G).2]at this;exact absurd ⟨e2.symm,e3.symm⟩ this)
def ziz(W:List (List Nu))(h:VsK W)(h2:W.length<=2):FnE prog 245 [vosA (voL W)] [] [] (ι:={L:List Cd//L.length<=4000000000/\∀x∈L,CdK W x}) (λL=>.tup [.sl cdE L.1,iv 0]) (λL=>[]):=by
 have hvl:(voL W).length=W.length:=jD ..;have x1:(voL W).length<=2:=aa
 refine bU [] func245 ntmps245 (λg w d vh=>?_);apply yc;refine zax ?_;refine gc (zhX W h) ?_;refine gd ?_ ?_<;>intro k4
 ·exact absurd rfl k4
 apply yf;apply yc;refine yP ?_;apply bD;iterate 2 apply ye
 refine yl (zK cdE 427 7 5 40 423 rfl rfl) ?_;refine gq ?_;refine zf (zhY (voL W).length) ?_;apply bD;apply kX;refine X.rangeX (π:=Unit) (sl:=[1,5]) (ι:=List Cd) (X:=λp zs=>(prX (voL W).length)[p]? =some zs) (N:=(· =(prX (voL W).length).length)) (H:=λ_ _ _ _ _=>True) (caps':=λ_=>[.ept (λ_:Unit=>[iv ((voL W).length:Int)]) () 0]) (λL=>([.ptr 1 0 0 0,.ptr 5 0 0 0],[(1000001,.hold vh []),(1,.box [vosA (voL W)] 44),(5,.box [.own 40] 423),(40,.row cdE (L) 427 7)])) (λp L=>CpK W p L) [] 900001 900002 rfl (λ_=>rfl) ac (λp zs hj=>by obtain⟨_,_,rfl⟩:=znT x1 hj;rfl) (λ_=>zgu (voL W).length x1) trivial rfl rfl ac (jU _) ah (λp zs hj=>by obtain⟨_,_,rfl⟩:=znT x1 hj;rfl) (λ_=>rfl) rfl rfl (λlL oo uu g a w k3=>⟨(),g,k3.ax,trivial⟩) (CpK.z W) (λp zs L hj hJ l ready busy rb vs g w hb hyB=>?_) (λp L hN hJ=>?_)
 ·have k2:=znT x1 hj;obtain⟨hn,hp2,rfl⟩:=k2;obtain⟨V,v9⟩:∃V,W[p]? =some V:=⟨_,lgg aa⟩;obtain⟨U,v2⟩:∃U,W[1-p]? =some U:=⟨_,lgg aa⟩;have hV:=h.k V (j6 v9);have hU:=h.k U (j6 v2);have hV2:(voL W)[(p:Int).toNat]? =some (evL V):=by rw[jN];exact zbj v9
  have hU2:(voL W)[(1-(p:Int)).toNat]? =some (evL U):=by rw[show(1-(p:Int)).toNat=1-p by omega];exact zbj v2
  have hvv:=hV.l;have huu:=hU.l;have h4:=zj V;have hel2:=zj U;have j4:∀i:Nat,i<W.length->(i:Int)=(p:Int)\/(i:Int)=1-(p:Int):=λi hi=>by omega
  have j3:=hJ.to (enV V 1);apply yc;refine yk ?_;apply yd;refine yk ?_;refine⟨rfl,rfl,?_⟩;refine gq ?_;refine y0 [(8,29)] (zem U hU 2) ?_;refine gq ?_;refine y0 [(8,34)] (zem V hV 1) ?_;refine ztj (K:=35) (E:=3) 1000002 (λkb bm=>?_) (ht:=Tryz.underlying469);apply bD;apply kX;refine zag (ι:=Array Nat×List Cd) [1,5,6,7,8,35] (λ(q:Array Nat×List Cd)zz=>zz) [900002,900001,1000001,1,5,29,34,1000002] (λ(q:Array Nat×List Cd)zz=>(40,.row cdE (q.2) 427 7)::(35,.obj kb (.mapIter (some bm) (enV V 1).length q.1 (enV V 1).length))::zz) (λ(q:Array Nat×List Cd)=>RnJ (enV V 1).length q.1/\CjK W p (enV V 1) q.1 q.2) (λ(q:Array Nat×List Cd)=>(enV V 1).length-q.1.size) (#[],L) (λq hk=>?_) (hJ:=by exact⟨RnJ.z _,j3⟩);obtain⟨G,x0⟩:=hk;apply yc;refine Ex.nxt (k:=34) (kb:=35) (kh:=1000002) (λmo i hmo j2=>?_);refine gd ?_ ?_<;>intro v1
  ·subst v1;have j1:=j2 rfl;obtain⟨xT,x2⟩:=j1;obtain⟨pe,hp⟩:∃pe,(enV V 1)[i]? =some pe:=⟨_,lgg xT⟩;have j0:=zxs (j6 hp);obtain⟨n,hZ,v8,v0⟩:=j0;have k9:pe.2=(n:Int):=by rw[v0]
   have hY:pe.1=tq (pf (usV V) n):=by rw[v0]
   have hX:=zd3 hV v8;obtain⟨e1,v5⟩:=hX;have hz1:=v5.z k9;apply yf;apply kX;apply yc;refine ya (x:=.tup [tmA pe.1,iv pe.2]) (hs:=zpV (kb:=35) (kh:=1000002) pe hp rfl rfl rfl rfl (λ_ _=>rfl) (λ_ _=>rfl)) ?_;(iterate 2 refine ya ?_);refine yP ?_;refine bF ?_;refine ya ?_;apply yp;(iterate 2 refine ya ?_);refine ya (hs:=zeP (kv:=zsb) (venc:=λi:Int=>iv i) (q:=pe.1) (ok:=true) (0:Int) zsc rfl rfl rfl rfl Tryz.underlying469 (λ_ _=>rfl) (zi2 ze3)) ?_;refine gd ?_ ?_<;>intro hW
   ·apply bH
    refine yr ((q.1.push i,q.2)) (hJ:=by
     first|exact⟨G.s xT x2,x0.no i⟩|exact⟨G.s xT x2,v4⟩) (hm:=by have h9:=(G.s xT x2).le;show _-(q.1.push i).size<_-q.1.size;rw[vG]at*;omega) (hI:=kW)
   have hQ:=u9.1 hW;obtain⟨mv,w2⟩:=hQ;have hG:=zxs (zse w2);obtain⟨m,hF,k8,hC⟩:=hG;have k7:(kget pe.1 (enV U 2)).getD 0=(m:Int):=by rw[w2];exact jA Prod.snd hC
   have h8:=zd3 hU k8;obtain⟨e3,v3⟩:=h8;have hz3:=v3.z k7;have k6:=zCJ v5.p v3.p;have htv:=zBf ⟨k6.1,k6.2.1⟩;refine gq ?_;refine y4 [13,49,50,51,52,53,54,55,56,57,58,59,60,61,62,63,64,65] [0,0,3,7,0,31,63,127,0,0,768,1792,0,7936,16128,32512,65535,0,262143] mo ?_;(iterate 16 refine yb ?_);refine yI (zaL e1.P e3.P v5.p v3.p) ?_;refine ChM.step rfl rfl rfl (zd (k:=13) ztq) rfl ?_;refine yD ?_;refine bF ?_;apply bD;apply ye;apply yc;(iterate 4 refine ya ?_);refine bI 4 ?_;refine yw ?_;(iterate 4 refine bE ?_);refine bE ?_ (x:=iv ((btS e1.P e3.P).tdiv 7)) (hs:=by intro hgd;exact zxL rfl rfl ac (wZ _ aa));(iterate 2 refine bE ?_);refine gf ?_ ?_<;>intro hc4
   ·apply bH
    refine yr ((q.1.push i,q.2)) (hJ:=by
     first|exact⟨G.s xT x2,x0.no i⟩|exact⟨G.s xT x2,v4⟩) (hm:=by have h9:=(G.s xT x2).le;show _-(q.1.push i).size<_-q.1.size;rw[vG]at*;omega) (hI:=kW)
   have h5:Fn prog 282 [evsA (evL V),iv pe.2,evsA (evL U),iv ((kget pe.1 (enV U 2)).getD 0)] (iv (cdk V U n m)):=by rw[k9,k7];exact zi3 V U hV hU n m hZ v8 hF k8
   have hql:=x0.n;have hql2:=G.le;have hql3:=zpk (V:=V) 1;have v4:CjK W p (enV V 1) (q.1.push i) (q.2++[(⟨pe.1,(p:Int),1-(p:Int),-1,e1.P.Step,cdk V U n m⟩:Cd)]):=x0.y ⟨aa,by show(0:Int)<=p;omega,V,n,by show W[(p:Int).toNat]? =_;rw[jN];exact v9,v8,hY⟩ rfl (v:=pe.2) hp x2 (zyB V 1);refine gq ?_;refine y4 [88,89,90,91,92,93,94,95,96,97,98,99,100,101,102,103,104,105,106,107,108,109,110,111] [0,0,0,0,0,0,0,0,0,496,0,0,0,6144,14336,0,0,0,196608,458752,0,2096112,4194302,8388606,16777215,33554431] mo ?_;(iterate 9 refine yb ?_);refine yI (zi4 W h (p:Int) (1-(p:Int)) pe.1 e1.P.Step j4) ?_;(iterate 11 refine yb ?_);refine yI h5 ?_;refine yb ?_;refine ChM.step rfl rfl rfl (zx (k:=111) (enc:=cdE) (l:=[(⟨pe.1,(p:Int),1-(p:Int),-1,e1.P.Step,cdk V U n m⟩:Cd)]) zys zx3 zyj ac rfl rfl rfl rfl ac ac (λ_=>rfl) rfl) rfl ?_;refine yD ?_;refine gq ?_
   refine yr ((q.1.push i,q.2++[(⟨pe.1,(p:Int),1-(p:Int),-1,e1.P.Step,cdk V U n m⟩:Cd)])) (hJ:=by
    first|exact⟨G.s xT x2,x0.no i⟩|exact⟨G.s xT x2,v4⟩) (hm:=by have h9:=(G.s xT x2).le;show _-(q.1.push i).size<_-q.1.size;rw[vG]at*;omega) (hI:=kW)
  ·subst v1;have hle:=G.le;have k5:=x0.fin (by have:=zpk (V:=V) 1;omega);apply bH;refine⟨[.ptr 1 0 0 0,.ptr 5 0 0 0],[(1000001,.hold vh []),(1,.box [vosA (voL W)] 44),(5,.box [.own 40] 423),(40,.row cdE (q.2) 427 7)],kW,q.2,rfl,k5⟩
 refine gq ?_;refine y0 [(2000000,40)] (zp4 h L hJ (by have:=hJ.n;have:=zqF x1;omega)) ?_;apply yp;refine yo ?_;refine bC ?_;refine zeQ (kY (k:=40) rfl) ?_;refine zm3.mk (⟨cdS L,by rw[show(cdS L).length=L.length from vP _];have:=hJ.n;have:=zqF x1;omega,λx hx=>hJ.k x (ztE.1 hx)⟩) [(2,.sl cdE (cdS L)),(3,iv 0)] [] (.inr rfl) (yh) (.many ac (.cons (.tmp rfl (kZ rfl)) (.cons (.tmp rfl (kZ rfl)) .nil)))
end
section
variable{P:Program}{T:TypeId}{a:Int}{c:Nat->Bool}{i j:Nat}{s:Int}{x:Ev}
structure Fi where
 V:Int
 E:Int
 A:Int
 R:Int
instance:Inhabited Fi:=⟨⟨0,0,0,0⟩⟩
def fiE:Fi->List AV:=λf=>[iv f.V,iv f.E,iv f.A,iv f.R]
abbrev fiA(f:Fi):AV:=.agg (fiE f)
abbrev Fm:=List ((Int×Int)×Fi)
def frQ(x:Ev):Bool:=!x.R&&decide (x.P.Alt=0)
def flQ(x:Ev)(s:Int):Bool:=frQ x&&decide (x.P.Step=s)
def flP(p q:Int×Int)(x y:Ev)(s:Int):Int×Int:=if flQ x s=true then p else if flQ y s=true then q else(0,0)
def flO(x y:Ev)(s:Int):Bool:=flQ x s||flQ y s
def ztF(h:frQ x=true):x.R=false:=by
 simp_all[frQ]
theorem zG9(h:flQ x s=true):x.R=false:=by
 simp_all[flQ,ztF]
def zwN{p q:Int×Int}{y:Ev}(h:flO x y s=true):(flP p q x y s=p/\x.R=false)\/(flP p q x y s=q/\y.R=false):=by
 grind[flO,flP,zG9]
def rdO(D O:Fm)(p:Int×Int)(a r:Int):Fm:=if(kget p D).isSome=false/\(kget p O).isSome=false then kput p ⟨p.1,p.2,a,r+1⟩ O else O
structure PlcK(W:List (List Nu))(p:Int×Int):Prop where
 v:0<=p.1
 h:∃V,W[p.1.toNat]? =some V/\0<=p.2/\p.2<V.length/\(W.length=2\/3<=V.length)/\(evG V p.2.toNat).R=false
structure FopK(W:List (List Nu))(D O:Fm):Prop where
 k:∀q∈O,PlcK W q.1/\q.2.V=q.1.1/\q.2.E=q.1.2/\(q.2.A=1\/q.2.A=-1)
 d:∀q∈O,kget q.1 D=none
 n:(O.map (·.1)).Nodup
def FopK.z(W:List (List Nu))(D:Fm):FopK W D []:=⟨ah,ah,ah⟩
def FopK.r{W:List (List Nu)}{D O:Fm}(h:FopK W D O){p:Int×Int}(K:PlcK W p)(G:a=1\/a=-1)(r:Int):FopK W D (rdO D O p a r):=by
 unfold rdO;split
 ·rename_i E;refine⟨λq N=>?_,λq N=>?_,zlM h.n⟩
  ·rcases zgt N with N|N
   ·simp_all
   ·exact h.k q N
  ·rcases zgt N with N|N
   ·simp_all
   ·exact h.d q N
 ·exact h
def zHa{D O:Fm}{r:Int}{p:Int×Int}(h:¬((kget p D).isSome=false/\(kget p O).isSome=false)):rdO D O p a r=O:=j8 h
def zHb{D O:Fm}{r:Int}{p:Int×Int}(h:(kget p D).isSome=false/\(kget p O).isSome=false):rdO D O p a r=kput p ⟨p.1,p.2,a,r+1⟩ O:=j7 h
def bsR(c:Nat->Bool)(i j:Nat):Nat:=if h:i<j then(if c ((i+j)/2)then bsR c ((i+j)/2+1) j else bsR c i ((i+j)/2))else i
termination_by j-i
def zHc(h:i<j)(N:c ((i+j)/2)=true):bsR c i j=bsR c ((i+j)/2+1) j:=by grind[bsR]
def zHd(h:i<j)(N:c ((i+j)/2)=false):bsR c i j=bsR c i ((i+j)/2):=by grind[bsR]
def zHe(h:¬i<j):bsR c i j=i:=by rw[bsR,dif_neg h]
def cmTt(t:Tm)(x:Ev):Int:=cmpI (x.At.N*t.D) (t.N*x.At.D)
def cmVt(V:List Nu)(t:Tm)(k:Nat):Int:=cmTt t ((evL V).getD k default)
def bsV(V:List Nu)(t:Tm):Nat:=bsR (λk=>decide (cmVt V t k<0)) 0 V.length
def zwO{u v:Int}(K:0<=u/\u<=60000)(G:0<=v/\v<=60000):0<=(tq u).N*(tq v).D/\(tq u).N*(tq v).D<=960000:=by
 have h1:=zuA (u:=u) ⟨K.1,aa⟩
 grind[zg7]
def zBg(h:(P.info? T).bind (·.zero)=some (.agg #[.int .i64 0,.int .i64 0,.int .i64 0,.int .i64 0])):∃z i,P.info? T=some i/\i.zero=some z/\∀I,RV I noNames (fiA (default:Fi)) z:=by
 obtain⟨i,h1,G⟩:=x5.1 h;refine⟨_,i,h1,G,λI=>.agg _ [.int .i64 0,.int .i64 0,.int .i64 0,.int .i64 0] rfl λj c v N K=>?_⟩;rcases j with _|_|_|_|j<;>simp[fiE]at N K<;>(subst N;subst K;exact .int _ _)
attribute [local irreducible] cdU rdO
def zC(L0:List (List Ev))(p:Int×Int)(L:List Ev)(x:Ev)(h1:L0[p.1.toNat]? =some L)(N:L[p.2.toNat]? =some x)(E:0<=p.1)(h4:0<=p.2):Fn prog 249 [.sl vosE L0,prE p] (.agg (evE x)):=by
 have K:=(j5.1 h1).1;have G:=(j5.1 N).1;refine bB func249 ntmps249 (λg w d=>?_);refine gq ?_;refine y4 [5,6,7,8,9,10,11] [0,0,2,7,15,0,32,127,255,511] mo ?_;iterate 7 refine yb ?_
 refine yD ?_;refine gq ?_;refine bJ (.one (.cellA rfl rfl rfl rfl ty62 (kZ ?_)));all_goals rfl
def zah(L0:List (List Ev))(p:Int×Int)(L:List Ev)(x:Ev)(h1:L0[p.1.toNat]? =some L)(N:L[p.2.toNat]? =some x)(K:0<=p.1)(G:0<=p.2):Fn prog 250 [.sl vosE L0,prE p] (.bool (frQ x)):=by
 refine bB func250 ntmps250 (λg w d=>?_);refine gq ?_;refine zf (zC L0 p L x h1 N K G) ?_;refine yO (zdQ (off:=7) (T:=4) ae ty4 rfl rfl) rfl ?_;refine ya ?_;refine bI 5 ?_;refine gq ?_;refine bT (zC L0 p L x h1 N K G) ?_;refine ExF.gs (bA (ziV (off:=4) (T:=60) ae ty60 rfl rfl)) ?_;refine ExF.gs (bA (zdQ (off:=2) (T:=3) ae ty3 rfl rfl)) ?_;refine bE ?_;refine ge ?_;all_goals rfl
def za1(L0:List (List Ev))(p q:Int×Int)(L M:List Ev)(x y:Ev)(s:Int)(h1:L0[p.1.toNat]? =some L)(h2:L[p.2.toNat]? =some x)(h3:0<=p.1)(h4:0<=p.2)(g1:L0[q.1.toNat]? =some M)(g2:M[q.2.toNat]? =some y)(g3:0<=q.1)(g4:0<=q.2):Fn prog 289 [.sl vosE L0,.agg [iv p.1,iv p.2,iv q.1,iv q.2],iv s] (.tup [prE (flP p q x y s),.bool (flO x y s)]):=by
 have hA:∀k:Nat,k<2->∃(r:Int×Int)(N:List Ev)(u:Ev),L0[r.1.toNat]? =some N/\N[r.2.toNat]? =some u/\0<=r.1/\0<=r.2/\(([iv p.1,iv p.2,iv q.1,iv q.2]:List AV).drop ((k:Int).toNat*2)).take 2=[iv r.1,iv r.2]/\(k=0->r=p/\u=x)/\(k=1->r=q/\u=y):=λk hk=>by
  match k,hk with
  |0,_=>exact⟨p,L,x,h1,h2,h3,h4,rfl,λ_=>⟨rfl,rfl⟩,λe=>by omega⟩
  |1,_=>exact⟨q,M,y,g1,g2,g3,g4,rfl,λe=>by omega,λ_=>⟨rfl,rfl⟩⟩
 refine bB func289 ntmps289 (λg w d=>?_);apply yc;refine zl ?_;refine yP ?_;refine yk ?_;apply ye;apply yc;refine yC ?_;apply kX;refine zag (ι:=Nat) [0,2,6,10] (λ(k:Nat)zz=>(11,iv (k:Int))::zz) [6] (λ(k:Nat)zz=>zz) (λ(k:Nat)=>k<=2/\(1<=k->flQ x s=false)/\(2<=k->flQ y s=false)) (λ(k:Nat)=>2-k) 0 (λk hk=>?_) (hJ:=by exact⟨aa,λh=>by omega,λh=>by omega⟩);obtain⟨x0,K,x2⟩:=hk;refine gd ?_ ?_<;>intro w2
 ·have x1:=hA k aa;obtain⟨r,N,u,r1,r2,r3,r4,hr,ra,rb⟩:=x1;apply yf;apply ye;apply kX;apply yc;refine yO (zO zyu zpY rfl rfl aa aa hr) rfl ?_;refine gq ?_;refine zf (zah L0 r N u r1 r2 r3 r4) ?_;refine bI 3 ?_;refine gq ?_;refine bT (zC L0 r N u r1 r2 r3 r4) ?_;refine ExF.gs (bA (ziV (off:=4) (T:=60) ae ty60 rfl rfl)) ?_;refine ExF.gs (bA (zdQ (off:=0) (T:=3) ae ty3 rfl rfl)) ?_;iterate 2 refine bE ?_
  refine gf ?_ ?_<;>intro G
  ·have hq:flQ u s=true:=by unfold flQ;simp[G.1,G.2]
   have hV:(r.1,r.2)=flP p q x y s/\true=flO x y s:=by
    unfold flP flO;by_cases e0:k=0
    ·rw[←(ra e0).2,←(ra e0).1,hq];exact⟨rfl,rfl⟩
    ·rw[K aa,←(rb aa).2,←(rb aa).1,hq];exact⟨rfl,rfl⟩
   have E:prE (r.1,r.2)=prE (flP p q x y s):=jA prE hV.1;refine gq ?_;refine yR zpY ?_ ?_;all_goals(first|exact E|exact jA AV.bool hV.2)
  have xT:flQ u s=false:=by
   unfold flQ;rcases G with h9|h9<;>simp[h9]
  refine gq ?_
  refine yr (k+1) (hJ:=by
   refine⟨aa,λe=>?_,λe=>?_⟩
   ·by_cases e0:k=0
    ·rw[←(ra e0).2];exact xT
    ·exact K aa
   ·rw[←(rb aa).2];exact xT) (hI:=kW)
 ·have hV:((0:Int),(0:Int))=flP p q x y s/\false=flO x y s:=by
   unfold flP flO;rw[K aa,x2 aa];exact⟨rfl,rfl⟩
  have E:prE (0,0)=prE (flP p q x y s):=jA prE hV.1;refine gq ?_;refine yR zpY ?_ ?_;all_goals(first|exact E|exact jA AV.bool hV.2)
def zp(D O:Fm)(p:Int×Int)(a r:Int)(hr:0<=r/\r<=100)(O2:Fm)(G:rdO D O p a r=O2):FnO prog 210 [prE p,iv a,.ptr 2000010 0 0 0,.ptr 2000011 0 0 0,.ptr 2000012 0 0 0] [(2000010,.box [.mp 2000013] 279),(2000011,.box [.mp 2000014] 279),(2000012,.box [iv r] 3),(2000013,.mpb prE fiA D),(2000014,.mpb prE fiA O)] [2000010,2000011,2000012,2000013,2000014] (.tup []) [(2000010,.box [.mp 2000013] 279),(2000011,.box [.mp 2000014] 279),(2000012,.box [iv r] 3),(2000013,.mpb prE fiA D),(2000014,.mpb prE fiA O2)]:=by
 refine bR [.ptr 2000010 0 0 0,.ptr 2000011 0 0 0,.ptr 2000012 0 0 0,.mp 2000013,.mp 2000014] func210 ntmps210 (λg w d vs=>?_);apply yc;refine zl ?_;apply yp;iterate 2 refine ya ?_
 refine ya (hs:=zeP (kv:=prV) (venc:=fiA) (q:=p) (ok:=true) (default:Fi) zk7 rfl rfl rfl rfl Tryz.underlying279 (λ_ _=>rfl) (zBg zp0)) ?_;iterate 3 refine ya ?_
 refine yP ?_;refine bF ?_;refine ya ?_;apply yp;iterate 2 refine ya ?_
 refine ya (hs:=zeP (kv:=prV) (venc:=fiA) (q:=p) (ok:=true) (default:Fi) zk7 rfl rfl rfl rfl Tryz.underlying279 (λ_ _=>rfl) (zBg zp0)) ?_;iterate 3 refine ya ?_
 refine yP ?_;refine bF ?_;refine ya ?_;apply yp;iterate 2 refine ya ?_
 refine bI 2 ?_;refine yw ?_;iterate 2 refine bE ?_
 refine gf ?_ ?_<;>intro N
 ·have K:=(zHb (a:=a) (r:=r) N).symm.trans G;refine gq ?_;refine yX (zck (q:=p) (venc:=fiA) ⟨p.1,p.2,a,r+1⟩ zk7 rfl rfl rfl rfl rfl rfl Tryz.underlying279 (λ_ _=>rfl)) ?_;apply bD;refine zm4.mk (ts:=[]) (.inl rfl) (kW) (.many ac .nil)
 ·have K:O=O2:=(zHa (a:=a) (r:=r) (by rintro⟨e1,e2⟩;rcases N with E|E<;>simp_all)).symm.trans G;apply yf;refine zm4.mk (ts:=[]) (.inl rfl) (kW) (.many ac .nil)
def zcM(x:Ev)(t:Tm)(h1:0<=x.At.N*t.D/\x.At.N*t.D<=960000)(K:0<=t.N*x.At.D/\t.N*x.At.D<=960000):Fn prog 247 [.agg (evE x),tmA t] (iv (cmTt t x)):=by
 refine bB func247 ntmps247 (λg w d=>?_);refine gc (zm (x.At.N*t.D) (t.N*x.At.D)) ?_;all_goals rfl
def zT(V:List Nu)(h:VoK V)(v:Int)(hv:0<=v/\v<=60000):Fn prog 246 [evsA (evL V),tmA (tq v),.fn 247 []] (.tup [iv (bsV V (tq v):Int),.bool (decide ((bsV V (tq v):Int)<(V.length:Int))&&decide (cmVt V (tq v) (bsV V (tq v))=0))]):=by
 have xT:=zj V;have v8:=h.l
 have hC:∀(k:Nat)(e:Ev),EwK V k e->Fn prog 247 [.agg (evE e),tmA (tq v)] (iv (cmVt V (tq v) k)):=λk e he=>by
  have e1:cmVt V (tq v) k=cmTt (tq v) e:=by unfold cmVt;rw[jB,he.at'];rfl
  rw[e1];have hp:=h.pf k;exact zcM e (tq v) (by rw[he.a];exact zwO hp hv) (by rw[he.a];exact zwO hv hp)
 have x2:∀k:Nat,(k:Int)<((evL V).length:Int)->Fn prog 247 [.agg (evE ((evL V).getD (k:Int).toNat default)),tmA (tq v)] (iv (cmVt V (tq v) k)):=λk hk=>by
  have x1:=zd3 h (k:=k) aa;obtain⟨e,he⟩:=x1;rw[jN,jB,he.at'];exact hC k e he
 refine bB func246 ntmps246 (λg w d=>?_);apply yc;refine zl ?_;iterate 2 refine ya ?_
 apply yp;iterate 3 refine ya ?_
 apply yp;refine yo ?_;apply ye;apply kX;refine zag (ι:=Nat×Nat) [0,2,4,8] (λ(q:Nat×Nat)zz=>(9,iv (q.1:Int))::(10,iv (q.2:Int))::zz) [4] (λ(q:Nat×Nat)zz=>zz) (λ(q:Nat×Nat)=>q.1<=q.2/\q.2<=V.length/\bsR (λk=>decide (cmVt V (tq v) k<0)) q.1 q.2=bsV V (tq v)) (λ(q:Nat×Nat)=>q.2-q.1) (0,V.length) (λq hk=>?_) (hJ:=by exact⟨jU _,jG _,rfl⟩);obtain⟨i,j⟩:=q;dsimp only at*
 obtain⟨v5,v4,N⟩:=hk;refine gd ?_ ?_<;>intro v3
 ·have G:i<j:=aa
  have x0:=zd3 h (k:=(i+j)/2) aa;obtain⟨e,he⟩:=x0;have v2:=he.z (i:=((i:Int)+(j:Int))/2) aa;apply yf;apply kX;apply yc;iterate 3 refine ya ?_
  refine yO (zcn rfl Tryz.underlying192 us3 (IntWalk.u64_in _ aa)) rfl ?_;refine yO (zzD rfl rfl) rfl ?_;refine yO (zcn rfl Tryz.underlying3 zx6 (wZ _ aa)) rfl ?_;refine gq ?_;refine y4 [24,25,26,27,28,29,30,31] [0,0,0,6,14,0,63,127] mo ?_;iterate 6 refine yb ?_
  refine yI (hC ((i+j)/2) e he) ?_;refine yb ?_;refine yD ?_;refine gd ?_ ?_<;>intro w2
  ·have K:=(zHc (c:=λk=>decide (cmVt V (tq v) k<0)) G (wD w2)).symm.trans N;refine gq ?_;refine yr (((i+j)/2+1,j)) (hJ:=by exact⟨aa,aa,K⟩) (hm:=by(dsimp only;omega)) (hI:=kW)
  ·have K:=(zHd (c:=λk=>decide (cmVt V (tq v) k<0)) G (wB aa)).symm.trans N;refine gq ?_;refine yr ((i,(i+j)/2)) (hJ:=by exact⟨aa,aa,K⟩) (hm:=by(dsimp only;omega)) (hI:=kW)
 ·have E:i=bsV V (tq v):=(zHe aa).symm.trans N;refine gq ?_;refine y4 [6,7,35,36,37,38,39,40,41,42,43,44,45,46,47,48] [0,0,0,6,14,30,30,30,222,478,30,2046,4094,8190,4095,32767] mo ?_;iterate 5 refine yb ?_
  iterate 6 refine bL ?_
  refine ChM.cp (λv9=>(x2 i v9)) ?_;refine bL ?_;iterate 3 refine yb ?_
  refine yD ?_;refine gq ?_;refine yn ?_ ?_;all_goals(subst E;first|rfl|rw[xT])
end
end Go.Rse
namespace Go.Rse
open Go Go.RowKit Go.Proofs.Tryz
section
variable{P:Program}{C:Ctx}{st st':St}
variable{F:(Nat->Bool)->St}{H:(Nat->Bool)->List (Nat×Blk)}{Q:Exit->St->Prop}{b:List (Nat×AV)}{f:Fl}{fl:List Fl}{i:Nat}{ops:Array Oper}{β:Nat->Bool}
def upB(i:Nat)(β:Nat->Bool):Nat->Bool:=λk=>i.beq k||β k
def ClB(ops:Array Oper)(β:Nat->Bool):Prop:=∀k,k<ops.size->β k=true->∀j∈dir ops k,β j=true
def drawS(he:zcU ops=true)(hF:∀β β':Nat->Bool,(∀i,i<ops.size->β i=β' i)->F β=F β')
 (hs:∀i β,i<ops.size->β i=false->(∀j∈dir ops i,β j=true)->ClB ops β->zbb P C ops i (F β) (F (upB i β)))(x2:Q .normal (F λ_=>true)):
 ∀(n:Nat)(l:List Bool)(g:Gh)(a:Act)(w:World),l.length=ops.size->zdR ops l.toArray->zV l=n->Rel C (F λi=>l.toArray.getD i false) g a w->wpAnyIn C.F 0 P .any ops (lift C Q) n l.toArray a w:=by
 have x1:∀i,i<ops.size->∀j∈dir ops i,j<i:=λi hi j hj=>by
  have:=jF.1 (jF.1 he i (ao hi)) j hj;simpa using this
 have x0:∀(l:List Bool)(i:Nat),i<l.length->(l.toArray.getD i false=true↔l[i]? =some true):=λl i h=>by
  simp[jI,h]
 intro n
 induction n with
 |zero=>
  intro l g a w hl E hn hr;have v4:=zcX hn
  have N:∀i,i<l.length->l.toArray.getD i false=true:=λi hi=>by
   have:=jF.1 v4 _ (wK hi);simp[jI,hi];simpa using this
  refine⟨uE.2 λi hi=>?_,?_⟩
  ·obtain⟨h1,h2,_⟩:=zr.1 hi;rw[zgH (by simpa[hl]using h1),N i aa]at h2;cases h2
  ·refine⟨_,g,hr,?_⟩;rw[hF _ (λ_=>true) λi hi=>N i aa];exact x2
 |succ n ih=>
  intro l g a w hl E hn hr
  have v3:∃i:Nat,l[i]? =some false/\∀k:Nat,k<i->l[k]? ≠some false:=by
   refine zeB (m:=l.length) ?_;refine jY λv2=>?_
   have:zV l=0:=by
    unfold zV;rw[uF.2 (λb hb=>?_)];rfl;obtain⟨i,hi⟩:=jL.1 hb;cases b
    ·exact absurd ⟨i,(j5.1 hi).1,hi⟩ v2
    ·simp
   omega
  have v1:Region.ready .any ops l.toArray≠[]:=λe=>by
   obtain⟨i,hi,w2⟩:=v3;have K:=(j5.1 hi).1
   have:i∈Region.ready .any ops l.toArray:=zr.2 ⟨aa,by simp[jI,hi],λk hk=>by
    have v0:=x1 i aa k hk;rw[x0 l k aa];have h1:=w2 k v0;have h2:l[k]? =some l[k]:=lgg aa;cases hb:l[k]
    ·rw[hb]at h2;exact absurd h2 h1
    ·rw[hb]at h2;exact h2⟩
   rw[e]at this;simp at this
  refine⟨λe=>absurd e v1,λi hi=>?_⟩;obtain⟨r1,r2,r3⟩:=zr.1 hi;have K:i<l.length:=aa
  have v9:l[i]? =some false:=by
   simp[jI,K]at r2;rw[lgg K,r2]
  have k9:l.toArray.getD i false=false:=by simp[jI,v9]
  have es:l.toArray.setIfInBounds i true=(l.set i true).toArray:=ah
  have G:∀k,(l.set i true).toArray.getD k false=if i=k then true else l.toArray.getD k false:=λk=>by
   rw[←es];exact zaj (ao K)
  have v8:zdR ops (l.set i true).toArray:=λk hk xT m hm=>by
   rw[G]at xT⊢;by_cases e:i=m
   ·rw[j7 e]
   ·rw[j8 e];by_cases e2:i=k
    ·subst e2;exact r3 m hm
    ·rw[j8 e2]at xT;exact E k hk xT m hm
  obtain⟨o,ho,hg,v5⟩:=hs i (λi=>l.toArray.getD i false) r1 k9 r3 λk hk h=>E k hk h
  obtain⟨dst,op,ty,pos,af,gd⟩:=o;simp only at hg v5;subst hg;simp only[wpOpIn,ho];have hw:Region.wanted {dst:=dst,op:=op,type:=ty,pos:=pos,after:=af,guard:=none} (yielded ops a.tmps)=true:=rfl;rw[j7 hw];refine zaf (v5 g a w pos af none hr _ λa' w' g' h'=>?_);rw[es];refine ih (l.set i true) g' a' w' (ao hl) v8 (by have:=zdS v9;omega) ?_;rw[hF _ (upB i λi=>l.toArray.getD i false) λk hk=>?_]
  ·exact h'
  ·rw[G];unfold upB;by_cases e:i=k
   ·rw[j7 e,e];simp
   ·rw[j8 e,beqF.2 e,xR]
def zyC(hn:(fl.map (·.d)).Nodup)(xT:(fl.map (·.i)).Nodup)(hf:f∈fl)(hβ:∀a∈f.as,β a=true)(hH:H (upB f.i β)=H β)(h:zs6 P C ops [] fl ⟨b,[]⟩ f 0):zbb P C ops f.i (SP ⟨b,H β⟩ fl β) (SP ⟨b,H (upB f.i β)⟩ fl (upB f.i β)):=by
 rcases h with h|⟨o,ho,hg,hd,x2,hp⟩
 ·exact absurd h (by unfold zxR;simp)
 refine⟨o,ho,hg,λg a w pos af gd hr K hK=>?_⟩
 have x1:Rel C (RP ⟨b,[]⟩ fl f.as) g a w:=by
  have h1:=@zxQ _ _ _ _ f.as hn (λf' G x0=>hβ f'.i x0) _ _ _ hr;exact⟨h1.size,h1.defers,h1.tmps,⟨h1.sat.im,h1.sat.ob,λk B h=>by cases h⟩,h1.ext⟩
 rw[hd];refine hp g a w (some f.d) pos af gd x1 K λv w' g' h2 h3 h4 h5=>hK _ w' g' ?_
 have E:=hr.addSt (d:=some f.d) (nb:=none) h2 x2 rfl h3 h4.1 h4.2 (λ_ _ h=>by cases h);rw[hH];refine E.slots rfl λt x hx=>?_
 rcases zeA (g:=λf'=>.ifb (upB f.i β f'.i) f'.x) hx with⟨f',G,rfl,rfl⟩|⟨h7,h8⟩
 ·by_cases e:f'.i=f.i
  ·have:f'=f:=zbU xT G hf e;subst this;have h9:lk ((f'.d,f'.x)::(SP ⟨b,H β⟩ fl β).t) f'.d=some f'.x:=by simp[ym]
   exact .ifb _ _ _ λ_=>E.tmps f'.d f'.x h9
  ·have N:f.d≠f'.d:=λe2=>e (jA Fl.i (zbU hn G hf e2.symm))
   have h9:lk ((f.d,f.x)::(SP ⟨b,H β⟩ fl β).t) f'.d=some (.ifb (β f'.i) f'.x):=by
    simp only[ym,beqF.2 N,cond_false];exact zfL (g:=λf=>.ifb (β f.i) f.x) hn G
   have w2:=E.tmps f'.d _ h9;show RV g'.I g'.ρ (.ifb (upB f.i β f'.i) f'.x) _;unfold upB;rw[beqF.2 (λe2=>e e2.symm),xR];exact w2
 ·have N:f.d≠t:=h7 f hf;refine E.tmps t x ?_;show lk ((f.d,f.x)::(SP ⟨b,H β⟩ fl β).t) t=some x;simp only[ym,beqF.2 N,cond_false];show lk (fl.map (λf=>(f.d,.ifb (β f.i) f.x))++rmK (fl.map (·.d)) b) t=some x;rw[zfM (g:=λf=>.ifb (β f.i) f.x) h7];exact h8
def zoo{k:Nat}{β:Nat->Bool}{b:List (Nat×AV)}:∀{fl:List Fl},frT k (fl.map (λf=>(f.d,f.x))++b)=true->frT k (fl.map (λf=>(f.d,.ifb (β f.i) f.x))++b)=true
 |[],h=>h
 |f::r,h=>by
  simp only[wW,wY,frT,jE]at h⊢;exact⟨h.1,zoo h.2⟩
def zdA{ops:Array Oper}{fl:List Fl}{b:List (Nat×AV)}{Hs Hs':List (Nat×Blk)}{i d:Nat}{T ty:TypeId}{cs:List AV}{pos:String}{af:Array Edge}{β:Nat->Bool}(hf:(⟨i,d,.ptr d 0 0 0,[]⟩:Fl)∈fl)(hz:yF P T cs)(hβ:β i=false)
 (hi:∀k B,lk Hs' k=some B->lk ((d,.box cs T)::Hs) k=some B)(ho:ops[i]? =some {dst:=some d,op:=.alloc T,type:=ty,pos:=pos,after:=af,guard:=none})
 (hd:dOk C.n (some d)=true)(xT:(frT d ((fl.filter λf'=>!f'.d.beq d).map (λf'=>(f'.d,f'.x))++rmK (fl.map (·.d)) b)&&frH d Hs)=true)
 (x2:(decide ((fl.map (·.d)).Nodup)&&decide ((fl.map (·.i)).Nodup))=true):zbb P C ops i (SP ⟨b,Hs⟩ fl β) (SP ⟨b,Hs'⟩ fl (upB i β)):=by
 obtain⟨f,E⟩:∃f:Fl,f=⟨i,d,.ptr d 0 0 0,[]⟩:=⟨_,rfl⟩;have hx:f.x=.ptr f.d 0 0 0:=by rw[E]
 have e1:i=f.i:=by rw[E]
 have e2:d=f.d:=by rw[E]
 rw[←E]at hf;subst e1;subst e2;have x0:=hx;simp only[jE,w8]at x2;obtain⟨hn,w2⟩:=x2;simp only[jE]at xT;refine⟨_,ho,rfl,λg a w pos af gd hr K hK=>?_⟩
 have h0:Rel C ⟨(fl.filter λf'=>!f'.d.beq f.d).map (λf'=>(f'.d,.ifb (β f'.i) f'.x))++rmK (fl.map (·.d)) b,Hs⟩ g a w:=hr.slots rfl λt x hx=>by
  rcases zeA (g:=λf'=>.ifb (β f'.i) f'.x) hx with⟨f',N,rfl,rfl⟩|⟨_,h2⟩
  ·exact hr.tmps f'.d _ (zfL (g:=λf=>.ifb (β f.i) f.x) hn (wG.1 N).1)
  ·have h3:=(zhj h2).1;refine hr.tmps t x ?_;show lk (fl.map (λf=>(f.d,.ifb (β f.i) f.x))++rmK (fl.map (·.d)) b) t=some x;rw[zfM (g:=λf=>.ifb (β f.i) f.x) (λf hf e=>?_)]
   ·exact h2
   ·have:memb t (fl.map (·.d))=true:=yG.2 (jS.2 ⟨f,hf,e⟩);rw[h3]at this;simp at this
 refine zd (k:=f.d) hz g a w (some f.d) pos af gd h0 K λv w' g' h2 h3 h4 h5=>hK _ w' g' ?_
 have h6:=h0.addSt (d:=some f.d) (nb:=some (f.d,.box cs T)) h2 hd (by
  show(_&&_)=true;rw[jE];exact⟨zoo xT.1,xT.2⟩) h3 h4.1 h4.2 h5
 refine⟨h6.size,h6.defers,λt x hx=>?_,⟨h6.sat.im,h6.sat.ob,λk B h=>h6.sat.blk k B (hi k B h)⟩,h6.ext⟩;rcases zeA (g:=λf'=>.ifb (upB f.i β f'.i) f'.x) hx with⟨f',N,rfl,rfl⟩|⟨h7,h8⟩
 ·by_cases e:f'.i=f.i
  ·have:f'=f:=zbU w2 N hf e;subst this;refine .ifb _ _ _ λ_=>?_
   rw[x0];exact h6.tmps f'.d (.ptr f'.d 0 0 0) (by simp[addSt,ym])
  ·have G:f.d≠f'.d:=λe2=>e (jA Fl.i (zbU hn N hf e2.symm))
   have x1:f'∈fl.filter λf'=>!f'.d.beq f.d:=wG.2 ⟨N,by rw[beqF.2 λe2=>G e2.symm];rfl⟩
   have h9:lk ((f.d,.ptr f.d 0 0 0)::((fl.filter λf'=>!f'.d.beq f.d).map (λf'=>(f'.d,.ifb (β f'.i) f'.x))++rmK (fl.map (·.d)) b)) f'.d=some (.ifb (β f'.i) f'.x):=by
    simp only[ym,beqF.2 G,cond_false];exact zfL (g:=λf=>.ifb (β f.i) f.x) ((List.filter_sublist.map _).nodup hn) x1
   have v9:=h6.tmps f'.d _ h9;show RV g'.I g'.ρ (.ifb (upB f.i β f'.i) f'.x) _;unfold upB;rw[beqF.2 (λe2=>e e2.symm),xR];exact v9
 ·have G:f.d≠t:=h7 f hf;refine h6.tmps t x ?_;show lk ((f.d,.ptr f.d 0 0 0)::((fl.filter λf'=>!f'.d.beq f.d).map (λf'=>(f'.d,.ifb (β f'.i) f'.x))++rmK (fl.map (·.d)) b)) t=some x;simp only[ym,beqF.2 G,cond_false];rw[zfM (g:=λf=>.ifb (β f.i) f.x) λf' N=>h7 f' (wG.1 N).1];exact h8
def clF(h:ClB ops β)(k j:Nat)(N:β j=false)(hk:(k.blt ops.size&&memb j (dir ops k))=true:=by kernel_rfl):β k=false:=by
 simp only[jE]at hk;cases e:β k
 ·rfl
 ·rw[h k (by have:=hk.1;simpa using this) e j (yG.1 hk.2)]at N;cases N
def zcO{α:Type 1}{k0:Nat}{B0:α}{R:List (Nat×α)}{k:Nat}{X:α}:∀(A:List (Nat×α)),memb k0 (A.map (·.1))=false->lk (A++(k0,B0)::R) k=some X->lk ((k0,B0)::(A++R)) k=some X
 |[],_,h=>h
 |(k1,B1)::A,hm,h=>by
  simp only[wW]at hm
  have N:k0≠k1/\memb k0 (A.map (·.1))=false:=by
   constructor
   ·intro e;have:memb k0 (k1::A.map (·.1))=true:=yG.2 (by simp[e]);rw[this]at hm;cases hm
   ·cases K:memb k0 (A.map (·.1))
    ·rfl
    ·have:memb k0 (k1::A.map (·.1))=true:=yG.2 (wA _ (yG.1 K));rw[this]at hm;cases hm
  simp only[wY,ym]at h⊢;cases h1:k1.beq k
  ·rw[h1,cond_false]at h;have:=zcO A N.2 h;simpa only[ym,h1,cond_false]using this
  ·rw[h1,cond_true]at h;have e1:k1=k:=ao h1
   rw[beqF.2 (by rw[←e1];exact N.1)];simpa only[cond_false,cond_true]using h
def zns{b s':St}(an:List Nat)(N:∀j∈dir ops i,β j=true)(h:∃(o:Oper)(st':St),ops[i]? =some o/\o.guard=none/\yu P C o.op o.type o.dst (S0 fl an β b) st'/\Imp C st' s')(hk:(an.all λa=>memb a (dir ops i))=true:=by kernel_rfl):zbb P C ops i (SP b fl β) s':=
 let⟨o,st',h1,K,G,E⟩:=h
 ⟨o,h1,K,zJ (zcq (zs7 λa ha=>N a (yG.1 (jF.1 hk a ha))) G) E⟩
def zqG(P:Program)(C:Ctx)(ops:Array Oper)(fl:List Fl)(b:List (Nat×AV))(H:(Nat->Bool)->List (Nat×Blk)):List Nat->Prop
 |[]=>True
 |i::r=>(∀β:Nat->Bool,β i=false->(∀j∈dir ops i,β j=true)->ClB ops β->zbb P C ops i (SP ⟨b,H β⟩ fl β) (SP ⟨b,H (upB i β)⟩ fl (upB i β)))/\zqG P C ops fl b H r
def zqG.get:∀{cl:List Nat},zqG P C ops fl b H cl->∀i∈cl,∀β:Nat->Bool,β i=false->(∀j∈dir ops i,β j=true)->ClB ops β->zbb P C ops i (SP ⟨b,H β⟩ fl β) (SP ⟨b,H (upB i β)⟩ fl (upB i β))
 |c::r,h,i,hi=>by
  rcases jW.1 hi with rfl|hi
  ·exact h.1
  ·exact h.2.get i hi
def X.drawS{rid:Nat}{l:List Oper}{Q:Exit->St->Prop}(fl pl:List Fl)(cl:List Nat)(b:List (Nat×AV))(H:(Nat->Bool)->List (Nat×Blk))(hm:P.follows .mixedOrders=true)(hi:Imp C st (SP ⟨b,H λ_=>false⟩ fl λ_=>false))(hP:zeD P C l.toArray [] fl ⟨b,[]⟩ 0 pl)
 (hH:∀i,memb i cl=false->∀β,H (upB i β)=H β)(xT:∀β β':Nat->Bool,(∀i∈cl,β i=β' i)->H β=H β')(hS:zqG P C l.toArray fl b H cl)(G:Q .normal (SP ⟨b,H λ_=>true⟩ fl λ_=>true))(x2:∃al,fl=pl++al)
 (hp:(zcU l.toArray&&decide ((fl.map (·.d)).Nodup)&&decide ((fl.map (·.i)).Nodup)&&(fl.all λf=>Nat.blt f.i l.length)&&(pl.all λf=>f.as.all λa=>memb a (dir l.toArray f.i))&&(pl.all λf=>!memb f.i cl)&&((List.range l.length).all λi=>memb i (pl.map (·.i))||memb i cl)&&(cl.all λi=>Nat.blt i l.length))=true:=by kernel_rfl):X P C (.region rid l.toArray true) st Q:=λg a w hr=>by
 simp only[jE,w8]at hp;obtain⟨⟨⟨⟨⟨⟨⟨he,x1⟩,x0⟩,w2⟩,v9⟩,v8⟩,E⟩,v5⟩:=hp;obtain⟨al,v4⟩:=x2;refine wpIn_region_any hm ?_;obtain⟨g1,N⟩:=hi g a w hr;have v3:Rel C (SP ⟨b,H λ_=>false⟩ fl λ_=>false) g1 a w.drew:=N.add (nk:=none) (d:=none) (x:=.any) (v:=.nilIface) ⟨bS _,λ_ _=>rfl,λ_ _=>rfl,Grow.drew w⟩ (λk h=>by simp at h) (λt h=>by simp at h) (.any _) N.sat.im N.sat.ob
 have hz:∀k,(List.replicate l.length false).toArray.getD k false=false:=λk=>by
  simp only[jI,xA,uS];split<;>rfl
 have hF:∀β β':Nat->Bool,(∀i,i<l.toArray.size->β i=β' i)->SP ⟨b,H β⟩ fl β=SP ⟨b,H β'⟩ fl β':=λβ β' h=>by
  rw[xT β β' λi hi=>h i (by have:=jF.1 v5 i hi;simpa using this)];exact zgN λf hf=>h f.i (by have:=jF.1 w2 f hf;simpa using this)
 have h:=Rse.drawS (F:=λβ=>SP ⟨b,H β⟩ fl β) he hF (λi β h1 h2 h3 h4=>by
  have K:=jF.1 E i (ao h1);simp only[wL]at K;rcases K with K|K
  ·obtain⟨f,hf,rfl⟩:=jS.1 (yG.1 K);have h6:=jF.1 v8 f hf;have h7:memb f.i cl=false:=ao h6
   exact zyC x1 x0 (by rw[v4];exact kK _ hf) (λa ha=>h3 a (yG.1 (jF.1 (jF.1 v9 f hf) a ha))) (hH f.i h7 β) (hP.get f hf)
  ·exact hS.get i (yG.1 K) β h2 h3 h4) G (zV (List.replicate l.length false)) (List.replicate l.length false) g1 a w.drew ah (λi _ hi=>by rw[hz]at hi;cases hi) rfl (by
  rw[hF _ (λ_=>false) λi _=>hz i];exact v3)
 have e1:zV (List.replicate l.length false)=l.toArray.size:=by simp[zV]
 have e2:(List.replicate l.length false).toArray=Array.replicate l.toArray.size false:=ah
 rw[e1,e2]at h;exact h
end
end Go.Rse
namespace Go.Rse
open Go Go.Proofs Go.Proofs.Tryz
variable{B:List (Nat×Blk)}{T:TypeId}{W:List (List Nu)}{i n:Nat}{p q:Int×Int}{x y:Ev}{β:Nat->Bool}
def tpP(p q:Int×Int)(x y:Ev):Int×Int:=if flO x y 6=true then flP p q x y 6 else flP p q x y 2
def tpB(x y:Ev):Bool:=flO x y 6||flO x y 2
def zBh(h:tpB x y=true):(tpP p q x y=p/\x.R=false)\/(tpP p q x y=q/\y.R=false):=by
 unfold tpB at h;unfold tpP;cases hx:flO x y 6
 ·rw[hx,xR]at h;rw[j8 ac];exact zwN h
 ·rw[j7 rfl];exact zwN hx
def zHf(h:flO x y 6=true):flP p q x y 6=tpP p q x y/\flO x y 6=tpB x y:=⟨(j7 h).symm,by unfold tpB;rw[h];rfl⟩
def zHg(h:flO x y 6=false):flP p q x y 2=tpP p q x y/\flO x y 2=tpB x y:=⟨by unfold tpP;rw[h];rfl,by unfold tpB;rw[h];rfl⟩
def SttK(W:List (List Nu))(s:Stt):Prop:=∀(v:Nat)(V:List Nu),W[v]? =some V->∃i:Int,s.E[v]? =some i/\(i<0\/∃k:Nat,i=(k:Int)/\k<V.length)
def zBi(h:VsK W)(hn:n<(sttL W).length):∃s,(sttL W)[n]? =some s/\SttK W s:=by
 have hl:=zeo W;obtain⟨p,G⟩:∃p,(moW W)[n]? =some p:=⟨_,lgg aa⟩;obtain⟨q,hq⟩:∃q,(moW W)[n+1]? =some q:=⟨_,lgg aa⟩;refine⟨_,znX G hq,λv V E=>⟨ixU (usV V) p,?_,?_⟩⟩
 ·show((uW W).map _)[v]? =_;unfold uW;rw[j9,j9,E];rfl
 ·have K:=zlX h p (j6 G);have N:=(h.k V (j6 E)).pos;by_cases c:(usV V).sum<=p
  ·exact .inl (by unfold ixU;rw[j7 c];decide)
  ·obtain⟨a,b,-⟩:=zgo N K.1 aa;refine .inr ⟨nx (usV V) p,?_,?_⟩
   ·unfold ixU;rw[j8 c]
   ·have:(usV V).length=V.length:=by unfold usV;simp
    omega
def evZ:Ev:=⟨⟨0,0⟩,⟨0,0⟩,⟨0,0,0⟩,false,0,0⟩
def slH(T:TypeId)(B:List (Nat×Blk))(x y z:Ev)(b1 b2 b3 c1 c2 c3:Bool):List (Nat×Blk):=
 bif c3 then(6,.box (evE x) T)::(7,.box (evE y) T)::(8,.box (evE z) T)::B else bif c2 then(6,.box (evE x) T)::(7,.box (evE y) T)::(8,.box (evE evZ) T)::B else bif c1 then(6,.box (evE x) T)::(7,.box (evE evZ) T)::(8,.box (evE evZ) T)::B
 else(bif b1 then[(6,.box (evE evZ) T)]else[])++((bif b2 then[(7,.box (evE evZ) T)]else[])++((bif b3 then[(8,.box (evE evZ) T)]else[])++B))
def zyD{z:Ev}(h:memb i [23,24,25,26,27,28]=false):slH T B x y z (upB i β 23) (upB i β 24) (upB i β 25) (upB i β 26) (upB i β 27) (upB i β 28)=slH T B x y z (β 23) (β 24) (β 25) (β 26) (β 27) (β 28):=by
 have hk:∀k∈[23,24,25,26,27,28],upB i β k=β k:=λk hk=>by
  have:i≠k:=λe=>by subst e;rw[yG.2 hk]at h;cases h
  unfold upB;rw[beqF.2 this,xR]
 rw[hk 23 ah,hk 24 ah,hk 25 ah,hk 26 ah,hk 27 ah,hk 28 ah]
def zk1{C:Ctx}{st:St}{ts:List (Nat×AV)}{hs:List (Nat×Blk)}(h1:impT st ts:=by repeat'(first|exact True.intro|(refine And.intro ⟨_,rfl,?_⟩ ?_;first|exact bM _|exact zcp _ _)))(N:impH st hs:=by repeat'(first|exact True.intro|(refine And.intro ⟨_,rfl,?_⟩ ?_;exact bN _))):Imp C st ⟨ts,hs⟩:=c7 h1 N
def zp5{C:Ctx}{b:St}{fl:List Fl}{ts:List (Nat×AV)}{hs:List (Nat×Blk)}(hn:decide ((fl.map (·.d)).Nodup)=true)(e:b.h=hs)(h1:impT ⟨fl.map (λf=>(f.d,f.x))++rmK (fl.map (·.d)) b.t,hs⟩ ts:=by repeat'(first|exact True.intro|(refine And.intro ⟨_,rfl,?_⟩ ?_;exact bM _)))(K:impH ⟨fl.map (λf=>(f.d,f.x))++rmK (fl.map (·.d)) b.t,hs⟩ hs:=by repeat'(first|exact True.intro|(refine And.intro ⟨_,rfl,?_⟩ ?_;exact bN _))):Imp C (SP b fl λ_=>true) ⟨ts,hs⟩:=λg a w hr=>by
 obtain⟨g1,N⟩:=zu6 (of_decide_eq_true hn) g a w hr;subst e;exact⟨g1,N.of h1 K⟩
def fnE:FuncId->List AV:=λf=>[.fn f []]
def ztG(h:VsK W):(sttL W).length<=4096:=by
 have h1:=zeo W;have N:=zgA h;omega
attribute [local irreducible] Pur yy yu Ex X Fn FnE Imp LeV LeB FnO yA zaJ piN piH evL mget btS btH kput kget tq pf cdU rdO ivK sttL tpP flP
def zdd(W:List (List Nu))(h:VsK W)(hW:W.length=2)(D O:Fm)(r:Int)(hr:0<=r/\r<=100)(hO:FopK W D O)(s:Stt)(hs:SttK W s)(a b:Nat)(ha:a<2)(hb:b<2):FnE prog 251 [vosA (voL W),.agg (sttE s),iv (a:Int),iv (b:Int),.fn 210 [.ptr 2000010 0 0 0,.ptr 2000011 0 0 0,.ptr 2000012 0 0 0]] [(2000010,.box [.mp 2000013] 279),(2000011,.box [.mp 2000014] 279),(2000012,.box [iv r] 3),(2000013,.mpb prE fiA D),(2000014,.mpb prE fiA O)] [2000010,2000011,2000012,2000013,2000014] (ι:={O2:Fm//FopK W D O2}) (λo2=>.tup []) (λo2=>[(2000010,.box [.mp 2000013] 279),(2000011,.box [.mp 2000014] 279),(2000012,.box [iv r] 3),(2000013,.mpb prE fiA D),(2000014,.mpb prE fiA o2.1)]):=by
 have hX:(voL W).length=W.length:=jD ..;obtain⟨V,G⟩:∃V,W[a]? =some V:=⟨_,lgg aa⟩;obtain⟨U,xT⟩:∃U,W[b]? =some U:=⟨_,lgg aa⟩;have hV:=h.k V (j6 G);have hU:=h.k U (j6 xT);have hQ:=hV.l;have hI:=hU.l;have k4:=hs a V G;have k3:=hs b U xT;obtain⟨ia,v3,v2⟩:=k4;obtain⟨ib,v1,v0⟩:=k3;have hG:=(j5.1 v3).1;have j0:=(j5.1 v1).1;have hZ:s.E[(a:Int).toNat]? =some ia:=v3;have hY:s.E[(b:Int).toNat]? =some ib:=v1;have w2:(voL W)[(a:Int).toNat]? =some (evL V):=zbj G;have v9:(voL W)[(b:Int).toNat]? =some (evL U):=zbj xT;refine bU [.ptr 2000010 0 0 0,.ptr 2000011 0 0 0,.ptr 2000012 0 0 0,.mp 2000013,.mp 2000014] func251 ntmps251 (λg w d vs=>?_);apply yc;refine zl ?_;apply bD;apply ye;apply yc;iterate 6 refine ya ?_
 refine bI 6 ?_;refine yw ?_;iterate 6 refine bE ?_
 refine gf ?_ ?_<;>intro hF
 ·refine bC ?_;refine zm3.mk (⟨O,hO⟩) [] [] (.inr rfl) (kW) (.many ac .nil)
 have k2:=v2.resolve_left aa;have j4:=v0.resolve_left aa;obtain⟨i,rfl,hi⟩:=k2;obtain⟨j,rfl,hj⟩:=j4;have j3:=zd3 hV hi;have j2:=zd3 hU hj;obtain⟨e1,N⟩:=j3;obtain⟨e2,K⟩:=j2;have v8:=N.z (i:=(i:Int)) rfl;have v5:=K.z (i:=(j:Int)) rfl;have k9:PtV ⟨e1.P.Step,e1.P.Oct,-1⟩:=⟨N.p.s,N.p.o,am⟩;have k8:PtV ⟨e2.P.Step,e2.P.Oct,-1⟩:=⟨K.p.s,K.p.o,am⟩;have x2:=za1 (voL W) ((a:Int),(i:Int)) ((b:Int),(j:Int)) (evL V) (evL U) e1 e2 6 w2 v8 am am v9 v5 am am;generalize k7:flP ((a:Int),(i:Int)) ((b:Int),(j:Int)) e1 e2 6=P6 at x2;generalize x1:flO e1 e2 6=B6 at x2;refine gq ?_;refine y4 [10,33,34,35,36,37,38,39,40,41,42,43,44,45,46,47] [0,0,2,0,14,30,63,0,0,256,0,1792,3840,8064,16383,0,65535] mo ?_;iterate 15 refine yb ?_
 refine ChM.step rfl rfl rfl (zd (k:=10) zyk) rfl ?_;refine yD ?_;refine gq ?_;refine y4 [11,12,48,49,50,51,52,53,54,55] [0,0,2,7,0,0,32,127,0,0,1023,2047] mo ?_;iterate 3 refine yb ?_
 refine yI (zC (voL W) ((a:Int),(i:Int)) (evL V) e1 w2 v8 am am) ?_;iterate 3 refine yb ?_
 refine yI (zC (voL W) ((b:Int),(j:Int)) (evL U) e2 v9 v5 am am) ?_;refine ChM.step rfl rfl rfl (zd (k:=11) zc62) rfl ?_;refine ChM.step rfl rfl rfl (zd (k:=12) zc62) rfl ?_;refine yD ?_;iterate 2 refine bF ?_
 apply bD;apply ye;apply yc;iterate 2 refine ya ?_
 refine bI 2 ?_;refine yw ?_;iterate 2 refine bE ?_
 refine gf ?_ ?_<;>intro hC
 ·refine bC ?_;refine zm3.mk (⟨O,hO⟩) [] [] (.inr rfl) (kW) (.many ac .nil)
 refine gc (zb5 e1.P e2.P N.p K.p) ?_;refine gd ?_ ?_<;>intro h9
 ·refine bC ?_;refine zm3.mk (⟨O,hO⟩) [] [] (.inr rfl) (kW) (.many ac .nil)
 refine gq ?_;refine zf x2 ?_;iterate 3 refine ya ?_
 refine yP ?_;refine bF ?_;refine yk ?_;refine zbm ⟨[(0,vosA (voL W)),(4,.fn 210 [.ptr 2000010 0 0 0,.ptr 2000011 0 0 0,.ptr 2000012 0 0 0]),(10,.ptr 10 0 0 0),(11,.ptr 11 0 0 0),(12,.ptr 12 0 0 0),(15,.ptr 15 0 0 0),(16,.bool (tpB e1 e2))],[(1000001,.hold vs [.ptr 2000010 0 0 0,.ptr 2000011 0 0 0,.ptr 2000012 0 0 0,.mp 2000013,.mp 2000014]),(2000010,.box [.mp 2000013] 279),(2000011,.box [.mp 2000014] 279),(2000012,.box [iv r] 3),(2000013,.mpb prE fiA D),(2000014,.mpb prE fiA O),(10,.box [iv (a:Int),iv (i:Int),iv (b:Int),iv (j:Int)] 481),(11,.box (evE e1) 62),(12,.box (evE e2) 62),(15,.box [iv (tpP ((a:Int),(i:Int)) ((b:Int),(j:Int)) e1 e2).1,iv (tpP ((a:Int),(i:Int)) ((b:Int),(j:Int)) e1 e2).2] 333)]⟩ (λx0=>?_) ?_
 ·refine gd ?_ ?_<;>intro v4
  ·have e6:=zHg (p:=((a:Int),(i:Int))) (q:=((b:Int),(j:Int))) (x1.trans v4);have k6:=za1 (voL W) ((a:Int),(i:Int)) ((b:Int),(j:Int)) (evL V) (evL U) e1 e2 2 w2 v8 am am v9 v5 am am;rw[e6.1,e6.2]at k6;refine gq ?_;refine zf k6 ?_;(iterate 3 refine ya ?_);refine bF ?_;refine yk ?_;exact yl kW x0
  ·have e6:=zHf (p:=((a:Int),(i:Int))) (q:=((b:Int),(j:Int))) (x1.trans v4);have e7:=k7.symm.trans e6.1;have e8:=x1.symm.trans e6.2;clear x2 k7 x1 v4;subst e7;subst e8;apply yf;exact yl kW x0
 refine gd ?_ ?_<;>intro j1
 ·refine bC ?_;refine zm3.mk (⟨O,hO⟩) [] [] (.inr rfl) (kW) (.many ac .nil)
 have k5:PlcK W (tpP ((a:Int),(i:Int)) ((b:Int),(j:Int)) e1 e2):=by
  rcases zBh (p:=((a:Int),(i:Int))) (q:=((b:Int),(j:Int))) j1 with⟨e,hf⟩|⟨e,hf⟩<;>rw[e]
  ·exact⟨am,V,G,am,am,.inl hW,N.r.symm.trans hf⟩
  ·exact⟨am,U,xT,am,am,.inl hW,K.r.symm.trans hf⟩
 apply yf;apply ye;apply yc;iterate 3 refine ya ?_
 refine ya (hs:=by exact zeE (xs:=[iv (tpP ((a:Int),(i:Int)) ((b:Int),(j:Int)) e1 e2).1,iv (tpP ((a:Int),(i:Int)) ((b:Int),(j:Int)) e1 e2).2]) (ys:=[iv (a:Int),iv (i:Int)]) (zqM (tpP ((a:Int),(i:Int)) ((b:Int),(j:Int)) e1 e2) ((a:Int),(i:Int))) inferInstance TyK.h rfl rfl rfl rfl rfl) ?_;refine gd ?_ ?_<;>intro h8
 ·refine gc (zb5 ⟨e1.P.Step,e1.P.Oct,-1⟩ e2.P k9 K.p) ?_;refine gd ?_ ?_<;>intro h5
  ·refine gq ?_;refine y0 [(2000010,2000010),(2000011,2000011),(2000012,2000012),(2000013,2000013),(2000014,2000014)] (zp D O (tpP ((a:Int),(i:Int)) ((b:Int),(j:Int)) e1 e2) (-1) r hr _ rfl) ?_;apply bD;refine zm3.mk (⟨rdO D O (tpP ((a:Int),(i:Int)) ((b:Int),(j:Int)) e1 e2) (-1) r,hO.r k5 (.inr rfl) r⟩) [] [] (.inl rfl) (kW) (.many ac .nil)
  ·apply yf;refine zm3.mk (⟨O,hO⟩) [] [] (.inl rfl) (kW) (.many ac .nil)
 ·refine gc (zb5 e1.P ⟨e2.P.Step,e2.P.Oct,-1⟩ N.p k8) ?_;refine gd ?_ ?_<;>intro h4
  ·refine gq ?_;refine y0 [(2000010,2000010),(2000011,2000011),(2000012,2000012),(2000013,2000013),(2000014,2000014)] (zp D O (tpP ((a:Int),(i:Int)) ((b:Int),(j:Int)) e1 e2) (-1) r hr _ rfl) ?_;apply bD;refine zm3.mk (⟨rdO D O (tpP ((a:Int),(i:Int)) ((b:Int),(j:Int)) e1 e2) (-1) r,hO.r k5 (.inr rfl) r⟩) [] [] (.inl rfl) (kW) (.many ac .nil)
  ·apply yf;refine zm3.mk (⟨O,hO⟩) [] [] (.inl rfl) (kW) (.many ac .nil)
def zc2(W:List (List Nu))(h:VsK W)(h2:W.length<=2)(D O:Fm)(r:Int)(hr:0<=r/\r<=100)(hO:FopK W D O):FnE prog 208 [vosA (voL W),.fn 210 [.ptr 2000010 0 0 0,.ptr 2000011 0 0 0,.ptr 2000012 0 0 0]] [(2000010,.box [.mp 2000013] 279),(2000011,.box [.mp 2000014] 279),(2000012,.box [iv r] 3),(2000013,.mpb prE fiA D),(2000014,.mpb prE fiA O)] [2000010,2000011,2000012,2000013,2000014] (ι:={O2:Fm//FopK W D O2}) (λo2=>.tup []) (λo2=>[(2000010,.box [.mp 2000013] 279),(2000011,.box [.mp 2000014] 279),(2000012,.box [iv r] 3),(2000013,.mpb prE fiA D),(2000014,.mpb prE fiA o2.1)]):=by
 have x1:(voL W).length=W.length:=jD ..;have x0:=ztG h;refine bU [.ptr 2000010 0 0 0,.ptr 2000011 0 0 0,.ptr 2000012 0 0 0,.mp 2000013,.mp 2000014] func208 ntmps208 (λg w d vs=>?_);refine gc (zbF W h) ?_;refine ze8 (ι:=Nat×Fm) (λ(q:Nat×Fm)=>[(0,vosA (voL W)),(1,.fn 210 [.ptr 2000010 0 0 0,.ptr 2000011 0 0 0,.ptr 2000012 0 0 0]),(15,.sl sttE (sttL W)),(16,iv ((sttL W).length:Int)),(17,iv (q.1:Int))]) (λ(q:Nat×Fm)=>[(1000001,.hold vs [.ptr 2000010 0 0 0,.ptr 2000011 0 0 0,.ptr 2000012 0 0 0,.mp 2000013,.mp 2000014]),(2000010,.box [.mp 2000013] 279),(2000011,.box [.mp 2000014] 279),(2000012,.box [iv r] 3),(2000013,.mpb prE fiA D),(2000014,.mpb prE fiA q.2)]) (λ(q:Nat×Fm)=>q.1<=(sttL W).length/\FopK W D q.2) (λ(q:Nat×Fm)=>(sttL W).length-q.1) (0,O) (λq hk=>?_) (hJ:=by exact⟨jU _,hO⟩) (h0:=by exact kW);obtain⟨k,O1⟩:=q;dsimp only at*
 obtain⟨w2,N⟩:=hk;refine gd ?_ ?_<;>intro v9
 ·have E:=zBi h (n:=k) aa;obtain⟨s,xT,hs⟩:=E;have v8:(sttL W)[(k:Int).toNat]? =some s:=xT;refine gq ?_;refine ze8 (ι:=Nat×Fm) (λ(q:Nat×Fm)=>[(0,vosA (voL W)),(1,.fn 210 [.ptr 2000010 0 0 0,.ptr 2000011 0 0 0,.ptr 2000012 0 0 0]),(15,.sl sttE (sttL W)),(16,iv ((sttL W).length:Int)),(17,iv (k:Int)),(7,.ptr 7 0 0 0),(22,iv ((voL W).length:Int)),(23,iv (q.1:Int))]) (λ(q:Nat×Fm)=>[(1000001,.hold vs [.ptr 2000010 0 0 0,.ptr 2000011 0 0 0,.ptr 2000012 0 0 0,.mp 2000013,.mp 2000014]),(7,.box (sttE s) 119),(2000010,.box [.mp 2000013] 279),(2000011,.box [.mp 2000014] 279),(2000012,.box [iv r] 3),(2000013,.mpb prE fiA D),(2000014,.mpb prE fiA q.2)]) (λ(q:Nat×Fm)=>q.1<=(voL W).length/\FopK W D q.2) (λ(q:Nat×Fm)=>(voL W).length-q.1) (0,O1) (λq hk=>?_) (hJ:=by exact⟨jU _,N⟩) (h0:=by exact kW);obtain⟨a,O2⟩:=q;dsimp only at*
  obtain⟨v5,K⟩:=hk;refine gd ?_ ?_<;>intro v4
  ·refine gq ?_;refine ze8 (ι:=Nat×Fm) (λ(q:Nat×Fm)=>[(0,vosA (voL W)),(1,.fn 210 [.ptr 2000010 0 0 0,.ptr 2000011 0 0 0,.ptr 2000012 0 0 0]),(15,.sl sttE (sttL W)),(16,iv ((sttL W).length:Int)),(17,iv (k:Int)),(7,.ptr 7 0 0 0),(22,iv ((voL W).length:Int)),(23,iv (a:Int)),(8,iv (a:Int)),(9,iv (q.1:Int))]) (λ(q:Nat×Fm)=>[(1000001,.hold vs [.ptr 2000010 0 0 0,.ptr 2000011 0 0 0,.ptr 2000012 0 0 0,.mp 2000013,.mp 2000014]),(7,.box (sttE s) 119),(2000010,.box [.mp 2000013] 279),(2000011,.box [.mp 2000014] 279),(2000012,.box [iv r] 3),(2000013,.mpb prE fiA D),(2000014,.mpb prE fiA q.2)]) (λ(q:Nat×Fm)=>(a+1<=q.1/\q.1<=(voL W).length)/\FopK W D q.2) (λ(q:Nat×Fm)=>(voL W).length-q.1) (a+1,O2) (λq hk=>?_) (hJ:=by exact⟨⟨jG _,aa⟩,K⟩) (h0:=by exact kW);obtain⟨b,O3⟩:=q;dsimp only at*
   obtain⟨v3,G⟩:=hk;refine gd ?_ ?_<;>intro v2
   ·have x2:W.length=2:=aa
    apply yf;apply ye;apply kX;apply yd;(iterate 5 refine ya ?_);refine zaB [(2000010,2000010),(2000011,2000011),(2000012,2000012),(2000013,2000013),(2000014,2000014)] (zdd W h x2 D O3 r hr G s hs a b aa aa) (λo3=>?_);refine gq ?_;refine yr ((b+1,o3.1)) (hJ:=by exact⟨am,o3.2⟩) (hm:=by(dsimp only;omega)) (hI:=kW)
   ·refine gq ?_;refine yr ((a+1,O3)) (hJ:=by exact⟨am,G⟩) (hm:=by(dsimp only;omega)) (hI:=kW)
  ·refine gq ?_;refine yr ((k+1,O2)) (hJ:=by exact⟨am,K⟩) (hm:=by(dsimp only;omega)) (hI:=kW)
 ·apply bH;refine zm3.mk (⟨O1,N⟩) [] [] (.inl rfl) (kW) (.many ac .nil)
def zde(W:List (List Nu))(h:VsK W)(D O:Fm)(r:Int)(hr:0<=r/\r<=100)(hO:FopK W D O):FnE prog 209 [vosA (voL W),.fn 210 [.ptr 2000010 0 0 0,.ptr 2000011 0 0 0,.ptr 2000012 0 0 0]] [(2000010,.box [.mp 2000013] 279),(2000011,.box [.mp 2000014] 279),(2000012,.box [iv r] 3),(2000013,.mpb prE fiA D),(2000014,.mpb prE fiA O)] [2000010,2000011,2000012,2000013,2000014] (ι:={O2:Fm//FopK W D O2}) (λo2=>.tup []) (λo2=>[(2000010,.box [.mp 2000013] 279),(2000011,.box [.mp 2000014] 279),(2000012,.box [iv r] 3),(2000013,.mpb prE fiA D),(2000014,.mpb prE fiA o2.1)]):=by
 have k5:(voL W).length=W.length:=jD ..;have k4:=h.l;refine bU [.ptr 2000010 0 0 0,.ptr 2000011 0 0 0,.ptr 2000012 0 0 0,.mp 2000013,.mp 2000014] func209 ntmps209 (λg w d vs=>?_);refine gq ?_;refine ze8 (ι:=Nat×Fm) (λ(q:Nat×Fm)=>[(0,vosA (voL W)),(1,.fn 210 [.ptr 2000010 0 0 0,.ptr 2000011 0 0 0,.ptr 2000012 0 0 0]),(14,iv ((voL W).length:Int)),(15,iv (q.1:Int))]) (λ(q:Nat×Fm)=>[(1000001,.hold vs [.ptr 2000010 0 0 0,.ptr 2000011 0 0 0,.ptr 2000012 0 0 0,.mp 2000013,.mp 2000014]),(2000010,.box [.mp 2000013] 279),(2000011,.box [.mp 2000014] 279),(2000012,.box [iv r] 3),(2000013,.mpb prE fiA D),(2000014,.mpb prE fiA q.2)]) (λ(q:Nat×Fm)=>q.1<=(voL W).length/\FopK W D q.2) (λ(q:Nat×Fm)=>(voL W).length-q.1) (0,O) (λq hk=>?_) (hJ:=by exact⟨jU _,hO⟩) (h0:=by exact kW);obtain⟨v,O1⟩:=q;dsimp only at*
 obtain⟨k3,v3⟩:=hk;refine gd ?_ ?_<;>intro k2
 ·obtain⟨V,v9⟩:∃V,W[v]? =some V:=⟨_,lgg aa⟩;have hV:=h.k V (j6 v9);have j4:=hV.l;have j3:=zj V;have v2:(voL W)[(v:Int).toNat]? =some (evL V):=zbj v9;refine gq ?_;refine ze8 (ι:=Nat×Fm) (λ(q:Nat×Fm)=>[(0,vosA (voL W)),(1,.fn 210 [.ptr 2000010 0 0 0,.ptr 2000011 0 0 0,.ptr 2000012 0 0 0]),(14,iv ((voL W).length:Int)),(15,iv (v:Int)),(4,iv (v:Int)),(5,iv (q.1:Int))]) (λ(q:Nat×Fm)=>[(1000001,.hold vs [.ptr 2000010 0 0 0,.ptr 2000011 0 0 0,.ptr 2000012 0 0 0,.mp 2000013,.mp 2000014]),(2000010,.box [.mp 2000013] 279),(2000011,.box [.mp 2000014] 279),(2000012,.box [iv r] 3),(2000013,.mpb prE fiA D),(2000014,.mpb prE fiA q.2)]) (λ(q:Nat×Fm)=>(1<=q.1/\q.1<=V.length+1)/\FopK W D q.2) (λ(q:Nat×Fm)=>V.length+1-q.1) (1,O1) (λq hk=>?_) (hJ:=by exact⟨⟨jG _,aa⟩,v3⟩) (h0:=by exact kW);obtain⟨n,O2⟩:=q;dsimp only at*
  obtain⟨j2,x2⟩:=hk;refine gd ?_ ?_<;>intro j1
  ·have v1:=zd3 hV (k:=n-1) aa;have v0:=zd3 hV (k:=n) aa;have k9:=zd3 hV (k:=n+1) aa;obtain⟨e1,v8⟩:=v1;obtain⟨e2,v5⟩:=v0;obtain⟨e3,k8⟩:=k9;have j0:=v8.p.n;have hZ:=v8.z (i:=(n:Int)-1) aa;have k7:=v5.z (i:=(n:Int)) rfl;have hY:=k8.z (i:=(n:Int)+1) aa;apply yf;apply ye;apply kX;apply ye;refine X.drawS ([⟨0,28,vosA (voL W),[]⟩,⟨1,29,iv (v:Int),[]⟩,⟨2,30,.ept vosE (evL V) 0,[0,1]⟩,⟨3,31,evsA (evL V),[2]⟩,⟨4,32,iv (n:Int),[]⟩,⟨5,33,iv ((n:Int)-1),[4]⟩,⟨6,34,.ept evE e1 0,[3,5]⟩,⟨7,35,.agg (evE e1),[6]⟩,⟨8,36,vosA (voL W),[]⟩,⟨9,37,iv (v:Int),[]⟩,⟨10,38,.ept vosE (evL V) 0,[8,9]⟩,⟨11,39,evsA (evL V),[10]⟩,⟨12,40,iv (n:Int),[]⟩,⟨13,41,.ept evE e2 0,[11,12]⟩,⟨14,42,.agg (evE e2),[13]⟩,⟨15,43,vosA (voL W),[]⟩,⟨16,44,iv (v:Int),[]⟩,⟨17,45,.ept vosE (evL V) 0,[15,16]⟩,⟨18,46,evsA (evL V),[17]⟩,⟨19,47,iv (n:Int),[]⟩,⟨20,48,iv ((n:Int)+1),[19]⟩,⟨21,49,.ept evE e3 0,[18,20]⟩,⟨22,50,.agg (evE e3),[21]⟩]++[⟨23,6,.ptr 6 0 0 0,[]⟩,⟨24,7,.ptr 7 0 0 0,[]⟩,⟨25,8,.ptr 8 0 0 0,[]⟩]) [⟨0,28,vosA (voL W),[]⟩,⟨1,29,iv (v:Int),[]⟩,⟨2,30,.ept vosE (evL V) 0,[0,1]⟩,⟨3,31,evsA (evL V),[2]⟩,⟨4,32,iv (n:Int),[]⟩,⟨5,33,iv ((n:Int)-1),[4]⟩,⟨6,34,.ept evE e1 0,[3,5]⟩,⟨7,35,.agg (evE e1),[6]⟩,⟨8,36,vosA (voL W),[]⟩,⟨9,37,iv (v:Int),[]⟩,⟨10,38,.ept vosE (evL V) 0,[8,9]⟩,⟨11,39,evsA (evL V),[10]⟩,⟨12,40,iv (n:Int),[]⟩,⟨13,41,.ept evE e2 0,[11,12]⟩,⟨14,42,.agg (evE e2),[13]⟩,⟨15,43,vosA (voL W),[]⟩,⟨16,44,iv (v:Int),[]⟩,⟨17,45,.ept vosE (evL V) 0,[15,16]⟩,⟨18,46,evsA (evL V),[17]⟩,⟨19,47,iv (n:Int),[]⟩,⟨20,48,iv ((n:Int)+1),[19]⟩,⟨21,49,.ept evE e3 0,[18,20]⟩,⟨22,50,.agg (evE e3),[21]⟩] [23,24,25,26,27,28] [(0,vosA (voL W)),(1,.fn 210 [.ptr 2000010 0 0 0,.ptr 2000011 0 0 0,.ptr 2000012 0 0 0]),(14,iv ((voL W).length:Int)),(15,iv (v:Int)),(4,iv (v:Int)),(5,iv (n:Int))] (λβ=>slH 62 [(1000001,.hold vs [.ptr 2000010 0 0 0,.ptr 2000011 0 0 0,.ptr 2000012 0 0 0,.mp 2000013,.mp 2000014]),(2000010,.box [.mp 2000013] 279),(2000011,.box [.mp 2000014] 279),(2000012,.box [iv r] 3),(2000013,.mpb prE fiA D),(2000014,.mpb prE fiA O2)] e1 e2 e3 (β 23) (β 24) (β 25) (β 26) (β 27) (β 28)) mo ?_ ?_ ?_ ?_ ?_ ?_ ⟨_,rfl⟩
   ·exact zP kW
   ·exact yE
   ·intro i hm β;exact zyD hm
   ·intro β β' hb;rw[hb 23 ah,hb 24 ah,hb 25 ah,hb 26 ah,hb 27 ah,hb 28 ah]
   ·refine⟨λβ hβ N K=>?_,?_⟩
    ·have G:=clF K 26 23 hβ;have E:=clF K 27 23 hβ;have xT:=clF K 28 23 hβ;show zbb _ _ _ 23 (SP ⟨_,slH 62 [(1000001,.hold vs [.ptr 2000010 0 0 0,.ptr 2000011 0 0 0,.ptr 2000012 0 0 0,.mp 2000013,.mp 2000014]),(2000010,.box [.mp 2000013] 279),(2000011,.box [.mp 2000014] 279),(2000012,.box [iv r] 3),(2000013,.mpb prE fiA D),(2000014,.mpb prE fiA O2)] e1 e2 e3 (β 23) (β 24) (β 25) (β 26) (β 27) (β 28)⟩ _ β) (SP ⟨_,slH 62 [(1000001,.hold vs [.ptr 2000010 0 0 0,.ptr 2000011 0 0 0,.ptr 2000012 0 0 0,.mp 2000013,.mp 2000014]),(2000010,.box [.mp 2000013] 279),(2000011,.box [.mp 2000014] 279),(2000012,.box [iv r] 3),(2000013,.mpb prE fiA D),(2000014,.mpb prE fiA O2)] e1 e2 e3 true (β 24) (β 25) (β 26) (β 27) (β 28)⟩ _ _);rw[hβ,G,E,xT];generalize β 24=x;generalize β 25=y;cases x<;>cases y<;>first|exact zdA (j6 (i:=23) rfl) zc62 hβ (λk B h=>zcO [] rfl h) rfl rfl rfl ae
    refine⟨λβ hβ N K=>?_,?_⟩
    ·have G:=clF K 26 24 hβ;have E:=clF K 27 24 hβ;have xT:=clF K 28 24 hβ;show zbb _ _ _ 24 (SP ⟨_,slH 62 [(1000001,.hold vs [.ptr 2000010 0 0 0,.ptr 2000011 0 0 0,.ptr 2000012 0 0 0,.mp 2000013,.mp 2000014]),(2000010,.box [.mp 2000013] 279),(2000011,.box [.mp 2000014] 279),(2000012,.box [iv r] 3),(2000013,.mpb prE fiA D),(2000014,.mpb prE fiA O2)] e1 e2 e3 (β 23) (β 24) (β 25) (β 26) (β 27) (β 28)⟩ _ β) (SP ⟨_,slH 62 [(1000001,.hold vs [.ptr 2000010 0 0 0,.ptr 2000011 0 0 0,.ptr 2000012 0 0 0,.mp 2000013,.mp 2000014]),(2000010,.box [.mp 2000013] 279),(2000011,.box [.mp 2000014] 279),(2000012,.box [iv r] 3),(2000013,.mpb prE fiA D),(2000014,.mpb prE fiA O2)] e1 e2 e3 (β 23) true (β 25) (β 26) (β 27) (β 28)⟩ _ _);rw[hβ,G,E,xT];generalize β 23=x;generalize β 25=y;cases x<;>cases y<;>first|exact zdA (j6 (i:=24) rfl) zc62 hβ (λk B h=>zcO [] rfl h) rfl rfl rfl ae|exact zdA (j6 (i:=24) rfl) zc62 hβ (λk B h=>zcO [(6,Blk.box (evE evZ) 62)] rfl h) rfl rfl rfl ae
    refine⟨λβ hβ N K=>?_,?_⟩
    ·have G:=clF K 26 25 hβ;have E:=clF K 27 25 hβ;have xT:=clF K 28 25 hβ;show zbb _ _ _ 25 (SP ⟨_,slH 62 [(1000001,.hold vs [.ptr 2000010 0 0 0,.ptr 2000011 0 0 0,.ptr 2000012 0 0 0,.mp 2000013,.mp 2000014]),(2000010,.box [.mp 2000013] 279),(2000011,.box [.mp 2000014] 279),(2000012,.box [iv r] 3),(2000013,.mpb prE fiA D),(2000014,.mpb prE fiA O2)] e1 e2 e3 (β 23) (β 24) (β 25) (β 26) (β 27) (β 28)⟩ _ β) (SP ⟨_,slH 62 [(1000001,.hold vs [.ptr 2000010 0 0 0,.ptr 2000011 0 0 0,.ptr 2000012 0 0 0,.mp 2000013,.mp 2000014]),(2000010,.box [.mp 2000013] 279),(2000011,.box [.mp 2000014] 279),(2000012,.box [iv r] 3),(2000013,.mpb prE fiA D),(2000014,.mpb prE fiA O2)] e1 e2 e3 (β 23) (β 24) true (β 26) (β 27) (β 28)⟩ _ _);rw[hβ,G,E,xT];generalize β 23=x;generalize β 24=y;cases x<;>cases y<;>first|exact zdA (j6 (i:=25) rfl) zc62 hβ (λk B h=>zcO [] rfl h) rfl rfl rfl ae|exact zdA (j6 (i:=25) rfl) zc62 hβ (λk B h=>zcO [(6,Blk.box (evE evZ) 62)] rfl h) rfl rfl rfl ae|exact zdA (j6 (i:=25) rfl) zc62 hβ (λk B h=>zcO [(7,Blk.box (evE evZ) 62)] rfl h) rfl rfl rfl ae|exact zdA (j6 (i:=25) rfl) zc62 hβ (λk B h=>zcO [(6,Blk.box (evE evZ) 62),(7,Blk.box (evE evZ) 62)] rfl h) rfl rfl rfl ae
    refine⟨λβ hβ N K=>?_,?_⟩
    ·have x1:β 23=true:=N 23 (yG.1 ae);have x0:β 24=true:=N 24 (yG.1 ae);have w2:β 25=true:=N 25 (yG.1 ae);have E:=clF K 27 26 hβ;have xT:=clF K 28 26 hβ;show zbb _ _ _ 26 (SP ⟨_,slH 62 [(1000001,.hold vs [.ptr 2000010 0 0 0,.ptr 2000011 0 0 0,.ptr 2000012 0 0 0,.mp 2000013,.mp 2000014]),(2000010,.box [.mp 2000013] 279),(2000011,.box [.mp 2000014] 279),(2000012,.box [iv r] 3),(2000013,.mpb prE fiA D),(2000014,.mpb prE fiA O2)] e1 e2 e3 (β 23) (β 24) (β 25) (β 26) (β 27) (β 28)⟩ _ β) (SP ⟨_,slH 62 [(1000001,.hold vs [.ptr 2000010 0 0 0,.ptr 2000011 0 0 0,.ptr 2000012 0 0 0,.mp 2000013,.mp 2000014]),(2000010,.box [.mp 2000013] 279),(2000011,.box [.mp 2000014] 279),(2000012,.box [iv r] 3),(2000013,.mpb prE fiA D),(2000014,.mpb prE fiA O2)] e1 e2 e3 (β 23) (β 24) (β 25) true (β 27) (β 28)⟩ _ _);rw[hβ,x1,x0,w2,E,xT];show zbb _ _ _ 26 (SP ⟨_,[(6,.box (evE evZ) 62),(7,.box (evE evZ) 62),(8,.box (evE evZ) 62),(1000001,.hold vs [.ptr 2000010 0 0 0,.ptr 2000011 0 0 0,.ptr 2000012 0 0 0,.mp 2000013,.mp 2000014]),(2000010,.box [.mp 2000013] 279),(2000011,.box [.mp 2000014] 279),(2000012,.box [iv r] 3),(2000013,.mpb prE fiA D),(2000014,.mpb prE fiA O2)]⟩ _ β) (SP ⟨_,[(6,.box (evE e1) 62),(7,.box (evE evZ) 62),(8,.box (evE evZ) 62),(1000001,.hold vs [.ptr 2000010 0 0 0,.ptr 2000011 0 0 0,.ptr 2000012 0 0 0,.mp 2000013,.mp 2000014]),(2000010,.box [.mp 2000013] 279),(2000011,.box [.mp 2000014] 279),(2000012,.box [iv r] 3),(2000013,.mpb prE fiA D),(2000014,.mpb prE fiA O2)]⟩ _ _);refine zns [0,1,2,3,4,5,6,7,23,24,25] N ⟨_,_,rfl,rfl,zav rfl rfl rfl rfl ty62 rfl (leB rfl),?_⟩;exact zk1
    refine⟨λβ hβ N K=>?_,?_⟩
    ·have x1:β 23=true:=N 23 (yG.1 ae);have x0:β 24=true:=N 24 (yG.1 ae);have w2:β 25=true:=N 25 (yG.1 ae);have G:β 26=true:=N 26 (yG.1 ae);have xT:=clF K 28 27 hβ;show zbb _ _ _ 27 (SP ⟨_,slH 62 [(1000001,.hold vs [.ptr 2000010 0 0 0,.ptr 2000011 0 0 0,.ptr 2000012 0 0 0,.mp 2000013,.mp 2000014]),(2000010,.box [.mp 2000013] 279),(2000011,.box [.mp 2000014] 279),(2000012,.box [iv r] 3),(2000013,.mpb prE fiA D),(2000014,.mpb prE fiA O2)] e1 e2 e3 (β 23) (β 24) (β 25) (β 26) (β 27) (β 28)⟩ _ β) (SP ⟨_,slH 62 [(1000001,.hold vs [.ptr 2000010 0 0 0,.ptr 2000011 0 0 0,.ptr 2000012 0 0 0,.mp 2000013,.mp 2000014]),(2000010,.box [.mp 2000013] 279),(2000011,.box [.mp 2000014] 279),(2000012,.box [iv r] 3),(2000013,.mpb prE fiA D),(2000014,.mpb prE fiA O2)] e1 e2 e3 (β 23) (β 24) (β 25) (β 26) true (β 28)⟩ _ _);rw[hβ,x1,x0,w2,G,xT];show zbb _ _ _ 27 (SP ⟨_,[(6,.box (evE e1) 62),(7,.box (evE evZ) 62),(8,.box (evE evZ) 62),(1000001,.hold vs [.ptr 2000010 0 0 0,.ptr 2000011 0 0 0,.ptr 2000012 0 0 0,.mp 2000013,.mp 2000014]),(2000010,.box [.mp 2000013] 279),(2000011,.box [.mp 2000014] 279),(2000012,.box [iv r] 3),(2000013,.mpb prE fiA D),(2000014,.mpb prE fiA O2)]⟩ _ β) (SP ⟨_,[(6,.box (evE e1) 62),(7,.box (evE e2) 62),(8,.box (evE evZ) 62),(1000001,.hold vs [.ptr 2000010 0 0 0,.ptr 2000011 0 0 0,.ptr 2000012 0 0 0,.mp 2000013,.mp 2000014]),(2000010,.box [.mp 2000013] 279),(2000011,.box [.mp 2000014] 279),(2000012,.box [iv r] 3),(2000013,.mpb prE fiA D),(2000014,.mpb prE fiA O2)]⟩ _ _);refine zns [0,1,2,3,4,5,6,7,8,9,10,11,12,13,14,23,24,25,26] N ⟨_,_,rfl,rfl,zav rfl rfl rfl rfl ty62 rfl (leB rfl),?_⟩;exact zk1
    refine⟨λβ hβ N K=>?_,?_⟩
    ·have x1:β 23=true:=N 23 (yG.1 ae);have x0:β 24=true:=N 24 (yG.1 ae);have w2:β 25=true:=N 25 (yG.1 ae);have G:β 26=true:=N 26 (yG.1 ae);have E:β 27=true:=N 27 (yG.1 ae);show zbb _ _ _ 28 (SP ⟨_,slH 62 [(1000001,.hold vs [.ptr 2000010 0 0 0,.ptr 2000011 0 0 0,.ptr 2000012 0 0 0,.mp 2000013,.mp 2000014]),(2000010,.box [.mp 2000013] 279),(2000011,.box [.mp 2000014] 279),(2000012,.box [iv r] 3),(2000013,.mpb prE fiA D),(2000014,.mpb prE fiA O2)] e1 e2 e3 (β 23) (β 24) (β 25) (β 26) (β 27) (β 28)⟩ _ β) (SP ⟨_,slH 62 [(1000001,.hold vs [.ptr 2000010 0 0 0,.ptr 2000011 0 0 0,.ptr 2000012 0 0 0,.mp 2000013,.mp 2000014]),(2000010,.box [.mp 2000013] 279),(2000011,.box [.mp 2000014] 279),(2000012,.box [iv r] 3),(2000013,.mpb prE fiA D),(2000014,.mpb prE fiA O2)] e1 e2 e3 (β 23) (β 24) (β 25) (β 26) (β 27) true⟩ _ _);rw[hβ,x1,x0,w2,G,E];show zbb _ _ _ 28 (SP ⟨_,[(6,.box (evE e1) 62),(7,.box (evE e2) 62),(8,.box (evE evZ) 62),(1000001,.hold vs [.ptr 2000010 0 0 0,.ptr 2000011 0 0 0,.ptr 2000012 0 0 0,.mp 2000013,.mp 2000014]),(2000010,.box [.mp 2000013] 279),(2000011,.box [.mp 2000014] 279),(2000012,.box [iv r] 3),(2000013,.mpb prE fiA D),(2000014,.mpb prE fiA O2)]⟩ _ β) (SP ⟨_,[(6,.box (evE e1) 62),(7,.box (evE e2) 62),(8,.box (evE e3) 62),(1000001,.hold vs [.ptr 2000010 0 0 0,.ptr 2000011 0 0 0,.ptr 2000012 0 0 0,.mp 2000013,.mp 2000014]),(2000010,.box [.mp 2000013] 279),(2000011,.box [.mp 2000014] 279),(2000012,.box [iv r] 3),(2000013,.mpb prE fiA D),(2000014,.mpb prE fiA O2)]⟩ _ _);refine zns [0,1,2,3,4,5,6,7,8,9,10,11,12,13,14,15,16,17,18,19,20,21,22,23,24,25,26,27] N ⟨_,_,rfl,rfl,zav rfl rfl rfl rfl ty62 rfl (leB rfl),?_⟩;exact zk1
    exact True.intro
   refine yl (st':=⟨[(0,vosA (voL W)),(1,.fn 210 [.ptr 2000010 0 0 0,.ptr 2000011 0 0 0,.ptr 2000012 0 0 0]),(14,iv ((voL W).length:Int)),(15,iv (v:Int)),(4,iv (v:Int)),(5,iv (n:Int)),(6,.ptr 6 0 0 0),(7,.ptr 7 0 0 0),(8,.ptr 8 0 0 0)],[(6,.box (evE e1) 62),(7,.box (evE e2) 62),(8,.box (evE e3) 62),(1000001,.hold vs [.ptr 2000010 0 0 0,.ptr 2000011 0 0 0,.ptr 2000012 0 0 0,.mp 2000013,.mp 2000014]),(2000010,.box [.mp 2000013] 279),(2000011,.box [.mp 2000014] 279),(2000012,.box [iv r] 3),(2000013,.mpb prE fiA D),(2000014,.mpb prE fiA O2)]⟩) (zp5 ae rfl) ?_;apply ye;apply yc;(iterate 2 refine ya ?_);refine bI 2 ?_;refine yw ?_;(iterate 2 refine bE ?_);(iterate 2 refine yw ?_);(iterate 2 refine bE ?_);(iterate 2 refine yw ?_);(iterate 4 refine bE ?_);refine bE ?_ (hs:=by intro hX;exact zcK (zpd _ _) inferInstance TyK.h rfl rfl rfl rfl rfl);refine gq ?_;refine bT (zah (voL W) ((v:Int),(n:Int)) (evL V) e2 v2 k7 am am) ?_;refine bE ?_;refine gf ?_ ?_<;>intro k6
   ·refine gq ?_
    refine yr ((n+1,O2)) (hJ:=by
     first|exact⟨am,x2⟩|exact⟨am,x2.r v4 (.inr rfl) r⟩) (hm:=by(dsimp only;omega)) (hI:=kW)
   have v4:PlcK W ((v:Int),(n:Int)):=⟨am,V,v9,am,am,.inr aa,v5.r.symm.trans (ztF k6.2)⟩;refine gc (zbz e1.P v8.p) ?_;refine gc (zbz e2.P v5.p) ?_;refine gd ?_ ?_<;>intro hW
   ·refine gq ?_;refine y0 [(2000010,2000010),(2000011,2000011),(2000012,2000012),(2000013,2000013),(2000014,2000014)] (zp D O2 ((v:Int),(n:Int)) (-1) r hr _ rfl) ?_;refine gq ?_
    refine yr ((n+1,rdO D O2 ((v:Int),(n:Int)) (-1) r)) (hJ:=by
     first|exact⟨am,x2⟩|exact⟨am,x2.r v4 (.inr rfl) r⟩) (hm:=by(dsimp only;omega)) (hI:=kW)
   ·refine gq ?_
    refine yr ((n+1,O2)) (hJ:=by
     first|exact⟨am,x2⟩|exact⟨am,x2.r v4 (.inr rfl) r⟩) (hm:=by(dsimp only;omega)) (hI:=kW)
  ·refine gq ?_;refine yr ((v+1,O2)) (hJ:=by exact⟨am,x2⟩) (hm:=by(dsimp only;omega)) (hI:=kW)
 ·apply bH;refine zm3.mk (⟨O1,v3⟩) [] [] (.inl rfl) (kW) (.many ac .nil)
def zdf(W:List (List Nu))(h:VsK W)(h2:W.length<=2)(D O:Fm)(r:Int)(hr:0<=r/\r<=100)(hO:FopK W D O):FnE prog 207 [vosA (voL W),.fn 210 [.ptr 2000010 0 0 0,.ptr 2000011 0 0 0,.ptr 2000012 0 0 0]] [(2000010,.box [.mp 2000013] 279),(2000011,.box [.mp 2000014] 279),(2000012,.box [iv r] 3),(2000013,.mpb prE fiA D),(2000014,.mpb prE fiA O)] [2000010,2000011,2000012,2000013,2000014] (ι:={O2:Fm//FopK W D O2}) (λo2=>.tup []) (λo2=>[(2000010,.box [.mp 2000013] 279),(2000011,.box [.mp 2000014] 279),(2000012,.box [iv r] 3),(2000013,.mpb prE fiA D),(2000014,.mpb prE fiA o2.1)]):=by
 have v2:(voL W).length=W.length:=jD ..;refine bU [.ptr 2000010 0 0 0,.ptr 2000011 0 0 0,.ptr 2000012 0 0 0,.mp 2000013,.mp 2000014] func207 ntmps207 (λg w d vs=>?_);apply yc;refine ya ?_;refine zaB [] (ziz W h h2) (λL=>?_);iterate 5 refine ya ?_
 apply yp;refine yo ?_;apply kX;have v1:=L.2.1;refine ze8 (ι:=Nat×Fm) (λ(q:Nat×Fm)=>[(0,vosA (voL W)),(1,.fn 210 [.ptr 2000010 0 0 0,.ptr 2000011 0 0 0,.ptr 2000012 0 0 0]),(18,.sl cdE L.1),(19,iv (L.1.length:Int)),(20,iv (q.1:Int))]) (λ(q:Nat×Fm)=>[(1000001,.hold vs [.ptr 2000010 0 0 0,.ptr 2000011 0 0 0,.ptr 2000012 0 0 0,.mp 2000013,.mp 2000014]),(2000010,.box [.mp 2000013] 279),(2000011,.box [.mp 2000014] 279),(2000012,.box [iv r] 3),(2000013,.mpb prE fiA D),(2000014,.mpb prE fiA q.2)]) (λ(q:Nat×Fm)=>q.1<=L.1.length/\FopK W D q.2) (λ(q:Nat×Fm)=>L.1.length-q.1) (0,O) (λq hk=>?_) (hJ:=by exact⟨jU _,hO⟩) (h0:=by exact kW);obtain⟨k,O1⟩:=q;dsimp only at*
 obtain⟨v0,N⟩:=hk;refine gd ?_ ?_<;>intro k9
 ·obtain⟨x,x1⟩:∃x,L.1[k]? =some x:=⟨_,lgg aa⟩;have k8:L.1[(k:Int).toNat]? =some x:=x1;have hx:=L.2.2 x (j6 x1);refine gd ?_ ?_<;>intro k7
  ·refine gq ?_
   refine yr ((k+1,O1)) (hJ:=by
    first|exact⟨am,N⟩|exact⟨am,N.r K (.inl rfl) r⟩) (hm:=by(dsimp only;omega)) (hI:=kW)
  have w2:=hx.a;obtain⟨V,n0,G,-,-⟩:=w2;have hV:=h.k V (j6 G);have k6:=hV.l;have k5:=zj V;have k4:=hx.c;have k3:=(j5.1 G).1;have xT:(voL W)[x.C.toNat]? =some (evL V):=zbj G;have hu:=hx.u h;have hB:=zT V hV (cdU x) ⟨hu.2.1.1,hu.2.2⟩;rw[←hu.1]at hB;generalize bsV V x.At=m at hB;refine gq ?_;refine y4 [8,9,27,28,29,30,31,32,33,34,35,36,37] [0,0,2,7,15,0,32,127,255,511,511,1023,4095] mo ?_;iterate 7 refine yb ?_
  refine yI hB ?_;iterate 5 refine yb ?_
  refine yD ?_;apply bD;apply ye;apply yc;iterate 2 refine ya ?_
  refine bI 2 ?_;refine yw ?_;iterate 2 refine bE ?_
  refine gf ?_ ?_<;>intro v9
  ·refine gq ?_
   refine yr ((k+1,O1)) (hJ:=by
    first|exact⟨am,N⟩|exact⟨am,N.r K (.inl rfl) r⟩) (hm:=by(dsimp only;omega)) (hI:=kW)
  have hm:m<V.length:=by have:=v9.1;simp at this;omega
  have v8:=zd3 hV (k:=m-1) aa;have v5:=zd3 hV (k:=m) aa;obtain⟨e1,E⟩:=v8;obtain⟨e2,x0⟩:=v5;have x2:=E.z (i:=(m:Int)-1) aa;have k2:=x0.z (i:=(m:Int)) rfl;refine gq ?_;refine y4 [11,49,50,51,52,53,54,55,56,57,58,59,60,61,62,63,64,65] [0,0,3,7,0,0,32,112,240,0,1008,2032,4080,8191,16383,32767,32767,0,196607,524287] mo ?_;iterate 2 refine yb ?_
  refine yI (zC (voL W) (x.C,(m:Int)-1) (evL V) e1 xT x2 hx.c am) ?_;refine ChM.step rfl rfl rfl (bA (ziV (off:=4) (T:=60) ae ty60 rfl rfl)) rfl ?_;iterate 9 refine yb ?_
  refine yI (zr9 e1.P e2.P E.p x0.p) ?_;iterate 3 refine yb ?_
  refine ChM.step rfl rfl rfl (zd (k:=11) ztq) rfl ?_;refine ChM.lt 16 ?_ ?_
  ·refine gq ?_;refine zf (zah (voL W) (x.C,(m:Int)-1) (evL V) e1 xT x2 hx.c am) ?_;refine bI 3 ?_;refine yw ?_;(iterate 3 refine bE ?_);refine gf ?_ ?_<;>intro v4
   ·have K:PlcK W (x.C,(m:Int)-1):=⟨hx.c,V,G,am,am,.inl hx.w,by rw[show((m:Int)-1).toNat=m-1 by omega];exact E.r.symm.trans (ztF v4.1)⟩;refine gq ?_;refine y0 [(2000010,2000010),(2000011,2000011),(2000012,2000012),(2000013,2000013),(2000014,2000014)] (zp D O1 (x.C,(m:Int)-1) 1 r hr _ rfl) ?_;refine gq ?_
    refine yr ((k+1,rdO D O1 (x.C,(m:Int)-1) 1 r)) (hJ:=by
     first|exact⟨am,N⟩|exact⟨am,N.r K (.inl rfl) r⟩) (hm:=by(dsimp only;omega)) (hI:=kW)
   ·refine gq ?_
    refine yr ((k+1,O1)) (hJ:=by
     first|exact⟨am,N⟩|exact⟨am,N.r K (.inl rfl) r⟩) (hm:=by(dsimp only;omega)) (hI:=kW)
  ·refine gq ?_;refine zf (zah (voL W) (x.C,(m:Int)-1) (evL V) e1 xT x2 hx.c am) ?_;refine bI 3 ?_;refine yw ?_;(iterate 3 refine bE ?_);refine gf ?_ ?_<;>intro v3
   ·have K:PlcK W (x.C,(m:Int)-1):=⟨hx.c,V,G,am,am,.inl hx.w,by rw[show((m:Int)-1).toNat=m-1 by omega];exact E.r.symm.trans (ztF v3.1)⟩;refine gq ?_;refine y0 [(2000010,2000010),(2000011,2000011),(2000012,2000012),(2000013,2000013),(2000014,2000014)] (zp D O1 (x.C,(m:Int)-1) 1 r hr _ rfl) ?_;refine gq ?_
    refine yr ((k+1,rdO D O1 (x.C,(m:Int)-1) 1 r)) (hJ:=by
     first|exact⟨am,N⟩|exact⟨am,N.r K (.inl rfl) r⟩) (hm:=by(dsimp only;omega)) (hI:=kW)
   ·refine gq ?_
    refine yr ((k+1,O1)) (hJ:=by
     first|exact⟨am,N⟩|exact⟨am,N.r K (.inl rfl) r⟩) (hm:=by(dsimp only;omega)) (hI:=kW)
 ·apply bH;refine zm3.mk (⟨O1,N⟩) [] [] (.inl rfl) (kW) (.many ac .nil)
def zd1(W:List (List Nu))(h:VsK W)(E:W.length<=2)(D:Fm):FnE prog 171 [vosA (voL W),.mp 2000020] [(2000020,.mpb prE fiA D)] [2000020] (ι:={O2:Fm//FopK W D O2}) (λo2=>.mp 8) (λo2=>[(2000020,.mpb prE fiA D),(8,.mpb prE fiA o2.1)]):=by
 have hF:∀f∈[207,208,209],∀(O:Fm)(r:Int),FopK W D O->0<=r->r<=100->FnE prog f [vosA (voL W),.fn 210 [.ptr 2000010 0 0 0,.ptr 2000011 0 0 0,.ptr 2000012 0 0 0]] [(2000010,.box [.mp 2000013] 279),(2000011,.box [.mp 2000014] 279),(2000012,.box [iv r] 3),(2000013,.mpb prE fiA D),(2000014,.mpb prE fiA O)] [2000010,2000011,2000012,2000013,2000014] (ι:={O2:Fm//FopK W D O2}) (λo2=>.tup []) (λo2=>[(2000010,.box [.mp 2000013] 279),(2000011,.box [.mp 2000014] 279),(2000012,.box [iv r] 3),(2000013,.mpb prE fiA D),(2000014,.mpb prE fiA o2.1)]):=λf hf O r G h0 h1=>by
  simp only[jW,List.not_mem_nil,or_false]at hf;rcases hf with rfl|rfl|rfl
  ·exact zdf W h E D O r ⟨h0,h1⟩ G
  ·exact zc2 W h E D O r ⟨h0,h1⟩ G
  ·exact zde W h D O r ⟨h0,h1⟩ G
 refine bU [.mp 2000020] func171 ntmps171 (λg w d vs=>?_);apply yc;refine zax ?_;refine gq ?_;refine bP (zaH (k:=8) prE fiA) rfl rfl ?_;refine gq ?_;refine bP (zu (enc:=fnE) (l:=[207,208,209]) zyr zx2 zEY ac rfl rfl rfl rfl ac ac (λ_=>rfl) rfl) rfl rfl ?_;refine gq ?_;refine ze8 (ι:=Nat×Fm) (λ(q:Nat×Fm)=>[(0,vosA (voL W)),(3,.ptr 3 0 0 0),(5,.ptr 5 0 0 0),(9,.sl fnE [207,208,209]),(10,iv 3),(11,iv (q.1:Int))]) (λ(q:Nat×Fm)=>[(1000001,.hold vs [.mp 2000020]),(3,.box [.mp 2000020] 279),(5,.box [.mp 8] 279),(2000020,.mpb prE fiA D),(8,.mpb prE fiA q.2)]) (λ(q:Nat×Fm)=>q.1<=3/\FopK W D q.2) (λ(q:Nat×Fm)=>3-q.1) (0,[]) (λq hk=>?_) (hJ:=by exact⟨am,FopK.z W D⟩) (h0:=by exact kW);obtain⟨k,O1⟩:=q;dsimp only at*
 obtain⟨xT,N⟩:=hk;refine gd ?_ ?_<;>intro x2
 ·obtain⟨f,K⟩:∃f,([207,208,209]:List FuncId)[k]? =some f:=⟨_,lgg (show k<3 by omega)⟩;have x1:([207,208,209]:List FuncId)[(k:Int).toNat]? =some f:=K;have hf:=j6 K;apply yf;apply ye;apply kX;apply yc;iterate 3 refine ya ?_
  refine yP ?_;refine bF ?_;refine yk ?_;apply yd;iterate 3 refine ya ?_
  refine zaB [(2000010,3),(2000011,5),(2000012,6),(2000013,2000020),(2000014,8)] (hF f hf O1 (k:Int) N aa aa) (λo3=>?_);refine gq ?_;refine yr ((k+1,o3.1)) (hJ:=by exact⟨am,o3.2⟩) (hm:=by(dsimp only;omega)) (hI:=kW)
 ·apply bH;apply yc;refine yC ?_;refine bC ?_;refine zm3.mk (⟨O1,N⟩) [(4,.mp 8)] [] (.inr rfl) (kW) (.one (.tmp rfl (kZ rfl)))
end Go.Rse
