/-
  Plain.
-/
import Derived.Test.YtamceaedmdmmlaaGreatDoorZJWri8
set_option linter.all false
namespace Go.Rse
open Go Go.Proofs
section
def FS(x:Sg):Prop:=(∃v c,1<=v/\v<=8/\x=⟨1,v,4,0,c,0,false,false,⟨0,0,0,0⟩,false,0,0,0,0⟩)\/(∃v,1<=v/\v<=8/\x=⟨2,v,0,0,false,0,false,false,⟨0,0,0,0⟩,false,0,0,0,0⟩)\/x=⟨3,0,0,0,false,0,false,false,⟨0,0,0,0⟩,false,0,0,0,0⟩
structure FK(f:List Sg):Prop where
 a:∀s∈f,FS s
 h:∃s r,f=s::r/\(s.Kind=1\/s.Kind=2)
def FK.app{f g:List Sg}(hf:FK f)(Z:∀s∈g,FS s):FK (f++g):=by
 obtain⟨s,r,rfl,h⟩:=hf.h;refine⟨λx hx=>?_,s,r++g,rfl,h⟩;rcases jY.1 hx with hx|hx
 ·exact hf.a x hx
 ·exact Z x hx
def zBb{m:Mn}{b:Bt}{h:Hb}{f:List Sg}(hf:f∈frV m b h):FK f:=by
 obtain⟨g,V,rfl⟩:=jW.1 (show f∈(frL m b h).map (foS b.Rest)from hf);have hv:=((zij 8).1 (show g∈rkL b h (allE m b.Dur) 8 from V)).1;have Z:g.v<=8:=hv.2;unfold foS
 have hs:FS (if b.Rest=true then(⟨2,g.v,0,0,false,0,false,false,⟨0,0,0,0⟩,false,0,0,0,0⟩:Sg)else⟨1,g.v,4,0,g.c,0,false,false,⟨0,0,0,0⟩,false,0,0,0,0⟩):=by
  split
  ·exact .inr (.inl ⟨g.v,hv.1,Z,rfl⟩)
  ·exact .inl ⟨g.v,g.c,hv.1,Z,rfl⟩
 have hk:(if b.Rest=true then(⟨2,g.v,0,0,false,0,false,false,⟨0,0,0,0⟩,false,0,0,0,0⟩:Sg)else⟨1,g.v,4,0,g.c,0,false,false,⟨0,0,0,0⟩,false,0,0,0,0⟩).Kind=1\/(if b.Rest=true then(⟨2,g.v,0,0,false,0,false,false,⟨0,0,0,0⟩,false,0,0,0,0⟩:Sg)else⟨1,g.v,4,0,g.c,0,false,false,⟨0,0,0,0⟩,false,0,0,0,0⟩).Kind=2:=by
  split
  ·exact .inr rfl
  ·exact .inl rfl
 dsimp only;split
 ·refine⟨λs q=>?_,_,_,rfl,hk⟩;rcases wA.1 q with rfl|q
  ·exact hs
  ·rw[wR.1 q];exact .inr (.inr rfl)
 ·refine⟨λs q=>?_,_,_,rfl,hk⟩;rw[wR.1 q];exact hs
def zrV{m:Mn}{D:List Tm}:∀{C:List (List (List Sg))}{run x:List Sg},(∀F∈C,∀f∈F,FK f)->srV m D C run=some x->reQ m x D=true/\∃y,x=run++y/\(∀s∈y,FS s)/\(C≠[]->FK y)
 |[],run,x,_,h=>by
  unfold srV at h;split at h
  ·rename_i U;injection h with h;subst h;exact⟨U,[],by simp,(λs hs=>nomatch hs),λe=>absurd rfl e⟩
  ·cases h
 |F::r,run,x,Z,h=>by
  unfold srV at h;obtain⟨f,hf,h1⟩:=List.exists_of_findSome?_eq_some h;obtain⟨T,y,rfl,V,J⟩:=zrV (λG N=>Z G (wE _ N)) h1;have hk:=Z F (by simp) f hf;refine⟨T,f++y,by rw[uB],λs hs=>?_,λ_=>hk.app V⟩;rcases jY.1 hs with q|q
  ·exact hk.a s q
  ·exact V s q
def zwC(m:Mn)(l:List Bt)(h:Hb):∀F∈chV m l h,∀f∈F,FK f:=λF Z f hf=>by
 obtain⟨b,-,rfl⟩:=jW.1 (show F∈l.map λb=>frV m b h from Z);exact zBb hf
def flS(m:Mn)(Q:List (List Sg)):List Sg:=Q.flatMap λR=>msS m::R
def flD(m:Mn)(Q:List (List Sg)):List Tm:=Q.flatMap λR=>(rdV m R).Durs
def zo9(m:Mn)(Q:List (List Sg))(R:List Sg):flS m (Q++[R])=flS m Q++msS m::R:=by unfold flS;simp
def zwD(m:Mn)(Q:List (List Sg))(R:List Sg):flD m (Q++[R])=flD m Q++(rdV m R).Durs:=by unfold flD;simp
structure GR(m:Mn)(R:List Sg):Prop where
 k:FK R
 e:rdE m R=0
def zkF{m:Mn}{R:List Sg}{D:List Tm}(h:reQ m R D=true):rdE m R=0/\(rdV m R).Durs=D:=by
 unfold reQ at h;simpa using h
def zji(a b:List Bt):durB (a++b)=durB a++durB b:=by unfold durB;simp
def zyz{m:Mn}{h:Hb}(G:reQ m [] []=true):∀(L:List (List Bt))(Q:List (List Sg))(R:List Sg)(B:List Bt)(S':List Sg),(∀b∈L,1<=b.length)->(∀R∈Q,GR m R)->(R=[]/\B=[]/\Q=[]\/GR m R/\(rdV m R).Durs=durB B)->ptK m h L (flS m (Q++[R])) R B=(0,S')→
 ∃Rs,S'=flS m Rs/\(Rs=[[]]\/∀R∈Rs,GR m R)/\flD m Rs=flD m Q++durB (B++L.flatten)
 |[],Q,R,B,S',_,J,V,h0=>by
  unfold ptK at h0;injection h0 with _ h0;refine⟨Q++[R],h0.symm,?_,?_⟩
  ·rcases V with⟨rfl,rfl,rfl⟩|⟨U,-⟩
   ·exact .inl rfl
   ·refine .inr λR' q=>?_
    rcases jY.1 q with q|q
    ·exact J R' q
    ·rw[wR.1 q];exact U
  ·rw[zwD];rcases V with⟨rfl,rfl,rfl⟩|⟨-,E⟩
   ·rw[(zkF G).2];simp[durB]
   ·rw[E];simp
 |b::r,Q,R,B,S',hL,J,V,h0=>by
  have xT:=hL b (by simp);have T:∀c∈r,1<=c.length:=λc H=>hL c (wE _ H)
  have N:chV m b h≠[]:=λe=>by
   have:=j9 List.length e;unfold chV at this;rw[jS]at this;simp at this;subst this;simp at xT
  unfold ptK at h0;split at h0
  ·rename_i H;split at h0
   ·rename_i x hx;obtain⟨h1,y,rfl,h2,Z⟩:=zrV (zwC m b h) hx;have Z:=Z N
    have hS:flS m (Q++[R])++(R++y).drop R.length=flS m (Q++[R++y]):=by
     rw[zo9,zo9,List.drop_left,uB];rfl
    rw[hS]at h0
    have hG:GR m (R++y):=⟨by
     rcases V with⟨rfl,-,-⟩|⟨U,-⟩
     ·simpa using Z
     ·exact U.k.app h2,(zkF h1).1⟩
    obtain⟨Rs,e1,e2,e3⟩:=zyz G r Q (R++y) (B++b) S' T J (.inr ⟨hG,(zkF h1).2⟩) h0;refine⟨Rs,e1,e2,?_⟩;rw[e3,uQ,uB]
   ·rename_i hn;split at h0
    ·rename_i x hx;rcases V with⟨rfl,rfl,rfl⟩|⟨U,E⟩
     ·rw[vE]at hn;rw[hn]at hx;cases hx
     ·obtain⟨h1,y,e,h2,Z⟩:=zrV (zwC m b h) hx;rw[vE]at e;subst e;have Z:=Z N
      have hS:(flS m (Q++[R])++[msS m])++x=flS m ((Q++[R])++[x]):=by
       rw[zo9 m (Q++[R]) x,uB];rfl
      rw[hS]at h0
      have x4:∀R'∈Q++[R],GR m R':=λR' q=>by
       rcases jY.1 q with q|q
       ·exact J R' q
       ·rw[wR.1 q];exact U
      obtain⟨Rs,e1,e2,e3⟩:=zyz G r (Q++[R]) x b S' T x4 (.inr ⟨⟨Z,(zkF h1).1⟩,(zkF h1).2⟩) h0;refine⟨Rs,e1,e2,?_⟩;rw[e3,zwD,E,uQ,zji,zji,zji,uB]
    ·cases h0
  ·rename_i H;injection h0 with h0 _;exact absurd h0 H
end
section
theorem FS.cl{x:Sg}(h:FS x):(clS x.Kind=1\/clS x.Kind=2)/\(x.Kind=1\/x.Kind=2\/x.Kind=3):=by
 rcases h with⟨v,c,-,-,rfl⟩|⟨v,-,-,rfl⟩|rfl<;>simp[clS]
section
variable{m:Mn}{l R:List Sg}
def zrW(l R':List Sg):∀k,k<=l.length->scS (l++R') k=scS l k
 |0,_=>rfl
 |k+1,h=>by
  rw[scS,scS,zrW l R' k (by omega),wS (by omega)]
def cl5:clS (msS m).Kind=3:=by simp[clS,msS]
def zyA(l R:List Sg):scS (l++msS m::R) (l.length+1)=⟨m,true,⟨-1,0,m⟩,scV l⟩:=by
 have hx:(l++msS m::R)[l.length]? =some (msS m):=by simp
 have e:=zrW l (msS m::R) l.length (jE _);unfold scV;by_cases c:0<=(scS l l.length).s.F
 ·rw[zp6 hx cl5 (m':=m) (kn':=true) (L':=(scS l l.length).L++[(scS l l.length).s]) (.inl ⟨rfl,rfl,rfl⟩) (.inl ⟨by rw[e];exact c,by rw[e]⟩),j6 c]
 ·rw[zp6 hx cl5 (m':=m) (kn':=true) (L':=(scS l l.length).L) (.inl ⟨rfl,rfl,rfl⟩) (.inr ⟨by rw[e];exact c,by rw[e]⟩),j7 c]
def zrX(l R:List Sg)(j:Nat):(l++msS m::R)[l.length+1+j]? =R[j]? :=by
 rw[u6 (by omega),show l.length+1+j-l.length=j+1 by omega,xG]
def zyB(V:FK R)(l:List Sg):∀j,j+1<=R.length->scS (l++msS m::R) (l.length+1+(j+1))=⟨m,true,⟨(l.length:Int)+1,(l.length:Int)+1+((j:Int)+1),m⟩,scV l⟩
 |0,h=>by
  obtain⟨x,r,rfl,hk⟩:=V.h;have hx:(l++msS m::x::r)[l.length+1]? =some x:=by simp
  have h1:clS x.Kind=1:=by rcases hk with e|e<;>simp[clS,e]
  have e:=zyA (m:=m) l (x::r);rw[show l.length+1+(0+1)=(l.length+1)+1 from rfl,ztU hx h1,e];simp
 |j+1,h=>by
  have ih:=zyB V l j (by omega);obtain⟨x,Z⟩:∃x,R[j+1]? =some x:=⟨_,lgg (by omega)⟩;have hx:(l++msS m::R)[l.length+1+(j+1)]? =some x:=by rw[zrX];exact Z
  rw[show l.length+1+(j+1+1)=(l.length+1+(j+1))+1 from rfl];rcases(V.a x (j8 Z)).cl.1 with h1|U
  ·rw[ztU hx h1,ih];dsimp only;rw[j7 (by omega)];congr 2
  ·rw[zx3 hx U,ih];dsimp only;congr 2
def FK.len(Z:FK R):1<=R.length:=by obtain⟨s,r,rfl,-⟩:=Z.h;simp
def zEB(Z:FK R)(l:List Sg):scV (l++msS m::R)=scV l++[⟨(l.length:Int)+1,(l.length:Int)+1+(R.length:Int),m⟩]:=by
 have hl:=Z.len;have e:=zyB (m:=m) Z l (R.length-1) (by omega);rw[show l.length+1+(R.length-1+1)=(l++msS m::R).length by simp;omega]at e;have e2:(((R.length-1:Nat):Int)+1)=(R.length:Int):=by omega
 rw[e2]at e;conv=>lhs;unfold scV
 rw[e];dsimp only;rw[j6 (by omega)]
def zwE(l R':List Sg)(F:Nat):∀n,F+n<=l.length->rcK (l++R') F n=rcK l F n
 |0,_=>rfl
 |n+1,h=>by
  rw[rcK,rcK,zwE l R' F n (by omega),wS (by omega)]
def zBc(l R':List Sg){c:Sc}(Z:ScR l.length c):rcV (l++R') c=rcV l c:=by
 have h1:=Z.f;have V:=Z.t;have U:=Z.n;unfold rcV;rw[zwE l R' _ _ (by omega)]
def zBd(V:FK R)(l:List Sg):∀n,n<=R.length->(rcK (l++msS m::R) (l.length+1) n).1=R.take n
 |0,_=>by simp[rcK]
 |n+1,h=>by
  obtain⟨x,Z⟩:∃x,R[n]? =some x:=⟨_,lgg (by omega)⟩;have hx:(l++msS m::R)[l.length+1+n]? =some x:=by rw[zrX];exact Z
  rw[←(zwt hx (V.a x (j8 Z)).cl.1).1,zBd V l n (by omega),jG,Z];rfl
def zEC(Z:FK R)(l:List Sg):rusV (l++msS m::R)=rusV l++[⟨m,R⟩]:=by
 unfold rusV;rw[zEB Z,xC];congr 1
 ·refine vC λc V=>?_
  rw[zBc l _ (zro l c V)]
 ·have:=zBd (m:=m) Z l R.length (jE _);rw[jK]at this;simp only[uG,xM];unfold rcV;dsimp only;rw[show((l.length:Int)+1).toNat=l.length+1 by omega,show((l.length:Int)+1+(R.length:Int)-((l.length:Int)+1)).toNat=R.length by omega,this]
def zyC(V:FK R){l:List Sg}(h:ScOk l):ScOk (l++msS m::R):=λk x hx=>by
 by_cases c:k<l.length
 ·rw[zrW l _ k (by omega)];rw[wS c]at hx;exact h k x hx
 by_cases c1:k=l.length
 ·subst c1;have:x=msS m:=by simpa using hx.symm
  subst this;rw[cl5];exact⟨λe=>absurd e (by decide),λe=>absurd e (by decide)⟩
 obtain⟨j,rfl⟩:∃j,k=l.length+1+j:=⟨k-(l.length+1),by omega⟩;have Z:=hx;rw[zrX]at Z;rcases j with _|j
 ·obtain⟨s,r,rfl,hk⟩:=V.h;have:s=x:=by simpa using Z
  subst this;have e:=zyA (m:=m) l (s::r);refine⟨λ_=>by rw[show l.length+1+0=l.length+1 from rfl,e],λe2=>?_⟩;have h1:clS s.Kind=1:=by rcases hk with e|e<;>simp[clS,e]
  omega
 ·have hl:=(j5.1 Z).1;rw[zyB (m:=m) V l j (by omega)];exact⟨λ_=>rfl,λ_=>by dsimp only;omega⟩
end
def zwF{m:Mn}:∀(n:Nat)(Q:List (List Sg)),Q.length=n->(∀R∈Q,GR m R)->rusV (flS m Q)=Q.map (λR=>⟨m,R⟩)/\ScOk (flS m Q)
 |0,Q,hn,_=>by
  have:Q=[]:=List.length_eq_zero_iff.1 hn;subst this;exact⟨rfl,λk x hx=>by simp[flS]at hx⟩
 |n+1,Q,hn,h=>by
  obtain⟨Q',R,rfl⟩:∃Q' R,Q=Q'++[R]:=⟨Q.dropLast,Q.getLast (by intro e;subst e;simp at hn),(List.dropLast_concat_getLast _).symm⟩;have ih:=zwF n Q' (by simpa using hn) λR q=>h R (by simp[q])
  have Z:=(h R (by simp)).k;rw[zo9,zEC Z,ih.1];exact⟨by simp,zyC Z ih.2⟩
def zED(m:Mn):rusV (flS m [[]])=[]/\ScOk (flS m [[]]):=by
 have e:=zyA (m:=m) [] []
 have hv:scV (flS m [[]])=[]:=by
  show scV [msS m]=[];unfold scV;have e2:scS [msS m] [msS m].length=⟨m,true,⟨-1,0,m⟩,scV []⟩:=e;rw[e2];rfl
 refine⟨by unfold rusV;rw[hv];rfl,λk x hx=>?_⟩;have hx:[msS m][k]? =some x:=hx;rcases k with _|k
 ·have:x=msS m:=by simpa using hx.symm
  subst this;rw[cl5];exact⟨λe=>absurd e (by decide),λe=>absurd e (by decide)⟩
 ·simp at hx
def zpa{m:Mn}:∀(Q:List (List Sg))(k:Nat),(∀R∈Q,GR m R)->rsK (Q.map λR=>⟨m,R⟩) k=(0,0)
 |[],k,_=>rfl
 |R::Q,k,h=>by
  rw[uG,zwa (show rdE m R=0 from(h R (by simp)).e)];exact zpa Q (k+1) λR' q=>h R' (wE _ q)
def zBe{m:Mn}(U:reQ m [] []=true){Q:List (List Sg)}(h:Q=[[]]\/∀R∈Q,GR m R):ScOk (flS m Q)/\rsK (rusV (flS m Q)) 0=(0,0)/\(rpV (flS m Q)).Durs=flD m Q:=by
 rcases h with rfl|h
 ·obtain⟨h1,Z⟩:=zED m;refine⟨Z,by rw[h1];rfl,?_⟩;unfold rpV;rw[h1];show(joV (rsR [])).Durs=_;unfold flD;simp[joV,rsR,(zkF U).2]
 ·obtain⟨h1,Z⟩:=zwF Q.length Q rfl h;have V:=zpa Q 0 h;refine⟨Z,by rw[h1,V],?_⟩;unfold rpV;rw[h1,V];show(joV (rsR _)).Durs=_;unfold joV rsR flD;dsimp only;rw[List.map_map,List.flatMap_map];rfl
def FS.ok{x:Sg}(h:FS x):SgK x/\¬x.Kind=4:=by
 rcases h with⟨v,c,h1,Z,rfl⟩|⟨v,h1,Z,rfl⟩|rfl
 ·refine⟨⟨?_,?_,?_,⟨?_,?_,?_,?_,?_,?_,?_,?_⟩,?_⟩,?_⟩<;>simp[ktV,ufS,h1,Z]
 ·refine⟨⟨?_,?_,?_,⟨?_,?_,?_,?_,?_,?_,?_,?_⟩,?_⟩,?_⟩<;>simp[ktV,ufS,h1,Z]
 ·refine⟨⟨?_,?_,?_,⟨?_,?_,?_,?_,?_,?_,?_,?_⟩,?_⟩,?_⟩<;>simp[ktV,ufS]
def zBf{m:Mn}(Z:ckM m=0):SgK (msS m)/\¬(msS m).Kind=4:=by
 refine⟨⟨?_,?_,?_,⟨?_,?_,?_,?_,?_,?_,?_,?_⟩,?_⟩,?_⟩<;>simp[ktV,ufS,msS,Z]
def zBg{m:Mn}(N:ckM m=0){Q:List (List Sg)}(h:Q=[[]]\/∀R∈Q,GR m R):∀x∈flS m Q,(SgK x/\¬x.Kind=4)/\¬x.Kind=9/\¬x.Kind=10:=λx hx=>by
 obtain⟨R,T,V⟩:=vZ.1 (show x∈Q.flatMap λR=>msS m::R from hx);rcases wA.1 V with rfl|Z
 ·exact⟨zBf N,by simp[msS],by simp[msS]⟩
 ·have U:FS x:=by
   rcases h with rfl|h
   ·rw[wR.1 T]at Z;cases Z
   ·exact(h R T).k.a x Z
  exact⟨U.ok,by have:=U.cl.2;omega,by have:=U.cl.2;omega⟩
end
section
structure GT(B:Int)(t:Tm):Prop where
 c:ckT t=0
 d:t.D∣48
 b:t.N<=B*t.D
def zuf:∀k:Fin 49,(k.val∣48)->k.val=1\/k.val=2\/k.val=3\/k.val=4\/k.val=6\/k.val=8\/k.val=12\/k.val=16\/k.val=24\/k.val=48:=by decide
def d48{d:Int}(h1:1<=d)(h:d∣48):d=1\/d=2\/d=3\/d=4\/d=6\/d=8\/d=12\/d=16\/d=24\/d=48:=by
 have Z:=Int.le_of_dvd (by decide) h;obtain⟨k,rfl⟩:=uC (show 0<=d by omega);have hk:k∣48:=by exact_mod_cast h
 have:=zuf ⟨k,by omega⟩ hk;simp only at this;omega
def GT.dc{B:Int}{t:Tm}(h:GT B t):t.D=1\/t.D=2\/t.D=3\/t.D=4\/t.D=6\/t.D=8\/t.D=12\/t.D=16\/t.D=24\/t.D=48:=d48 (zM h.c).2.2.2.2.1 h.d
def zBh{n d B:Int}(h0:0<=n)(h1:1<=d)(hn:n<=1099511627776)(hd:d<=1048576)(G:n<=B*d)(V:d∣48*n):tmkE n d=0/\GT B (tmkT n d):=by
 have E:=zbY (n:=n) (d:=d) (by omega);have gn:gI n d∣n:=uK.2 (x5 _ _);have gd:gI n d∣d:=uK.2 (vO _ _);have en:=vK gn;have ed:=vK gd;have ln:n/gI n d<=n:=u5 _ h0;have ld:d/gI n d<=d:=u5 _ (by omega)
 have hE:tmkE n d=0:=by
  unfold tmkE;rw[j7 (by omega),j7 (by omega),j7 (by omega)]
 have J:=zny h0 h1 hE;have H:tmkT n d=⟨n/gI n d,d/gI n d⟩:=by unfold tmkT;rw[j6 hE]
 refine⟨hE,J,?_,?_⟩
 ·have Z:=zxE J;rw[H]at Z⊢;show d/gI n d∣48
  have U:d/gI n d∣48*(n/gI n d):=by
   obtain⟨c,T⟩:=V;refine⟨c,?_⟩;refine Int.eq_of_mul_eq_mul_left (a:=gI n d) (by omega) ?_
   calc gI n d*(48*(n/gI n d))=48*(gI n d*(n/gI n d)):=by rw[←vW,Int.mul_comm (gI n d) 48,vW]
    _=d*c:=by rw[en];exact T
    _=gI n d*(d/gI n d*c):=by rw[←vW,ed]
  have h2:(d/gI n d).natAbs∣48*(n/gI n d).natAbs:=by
   have:=Int.natAbs_dvd_natAbs.2 U
   rwa[Int.natAbs_mul]at this
  have N:Nat.Coprime (d/gI n d).natAbs (n/gI n d).natAbs:=Nat.Coprime.symm Z;have h3:=Nat.Coprime.dvd_of_dvd_mul_right N h2;exact Int.natAbs_dvd.1 (Int.ofNat_dvd.2 h3)
 ·rw[H];show n/gI n d<=B*(d/gI n d);refine Int.le_of_mul_le_mul_left (a:=gI n d) ?_ E;rw[en,←vW,Int.mul_comm (gI n d) B,vW,ed];exact G
def zyD{A B:Int}{a b:Tm}(Z:GT A a)(V:GT B b)(h0:0<=A)(h1:0<=B)(U:A<=100000)(T:B<=100000):addE a b=0/\GT (A+B) (addV a b):=by
 have hf:=zoC Z.c V.c;have na:=(zM Z.c).1;have nb:=(zM V.c).1;have ba:=Z.b;have bb:=V.b;unfold addE addV;rw[j6 hf,j6 hf];rcases Z.dc with e|e|e|e|e|e|e|e|e|e<;>rcases V.dc with f|f|f|f|f|f|f|f|f|f<;>rw[e]at ba⊢<;>rw[f]at bb⊢<;>exact zBh (by omega) (by omega) (by omega) (by omega) (by omega) (by omega)
end
section
def ls1(u:Tm)(L:List Tm):List Tm:=(L.filter λt=>decide (0<cmpV t u)).map λt=>subV t u
def duS(u:Tm)(k v:Int)(L:List Tm):List Tm:=L++((if v<=k then ls1 u L else[])++((if v<k then ls1 u (ls1 u L)else[])++(if v=k+1 then[addV u u]else[])))
def duF(m:Mn)(v:Int):List Int->List Tm->List Tm
 |[],L=>L
 |k::r,L=>duF m v r (duS (unT m k) k v L)
def zjj{u:Tm}{L L':List Tm}(h:∀t∈L,t∈L'):∀t∈ls1 u L,t∈ls1 u L':=λt ht=>by
 unfold ls1 at ht⊢;obtain⟨x,hx,rfl⟩:=jW.1 ht;rw[wU]at hx;exact jW.2 ⟨x,wU.2 ⟨h x hx.1,hx.2⟩,rfl⟩
def znU{u t:Tm}{L:List Tm}(h:t∈L)(Z:0<cmpV t u):subV t u∈ls1 u L:=jW.2 ⟨t,wU.2 ⟨h,jJ Z⟩,rfl⟩
def zrY{u:Tm}{k v:Int}{L L':List Tm}(h:∀t∈L,t∈L'):∀t∈duS u k v L,t∈duS u k v L':=λt ht=>by
 unfold duS at ht⊢;simp only[jY]at ht⊢;rcases ht with ht|ht|ht|ht
 ·exact .inl (h t ht)
 ·refine .inr (.inl ?_);split at ht
  ·rename_i Z;rw[j6 Z];exact zjj h t ht
  ·simp at ht
 ·refine .inr (.inr (.inl ?_));split at ht
  ·rename_i Z;rw[j6 Z];exact zjj (zjj h) t ht
  ·simp at ht
 ·exact .inr (.inr (.inr ht))
def zmV{m:Mn}{v:Int}:∀(L:List Int){A B:List Tm},(∀t∈A,t∈B)->∀t∈duF m v L A,t∈duF m v L B
 |[],A,B,h=>h
 |k::r,A,B,h=>zmV r (zrY h)
def zBi{u t:Tm}{k v:Int}:t∈duS u k v [t]:=by unfold duS;simp
def zwG{u t:Tm}{k v:Int}(hv:v<=k)(Z:0<cmpV t u):subV t u∈duS u k v [t]:=by
 unfold duS;rw[j6 hv];exact jY.2 (.inr (jY.2 (.inl (znU (by simp) Z))))
def zBj{u t:Tm}{k v:Int}(hv:v<k)(Z:0<cmpV t u)(V:0<cmpV (subV t u) u):subV (subV t u) u∈duS u k v [t]:=by
 unfold duS;rw[j6 hv];exact jY.2 (.inr (jY.2 (.inr (jY.2 (.inl (znU (znU (by simp) Z) V))))))
def zBk{u t:Tm}{k v:Int}(hv:v=k+1):addV u u∈duS u k v [t]:=by
 unfold duS;rw[j6 hv];simp
structure DuJ(u:Tm)(k:Int)(l:List Ite)(S:List Sgm)(n:Nat)(st:List Ite×List (Int×Bool)):Prop where
 fx:∀i:Int,0<=i->i<l.length->(itg l i).Fixed=true->(itg st.1 i).Dur=(itg l i).Dur
 du:∀i:Int,0<=i->i<l.length->(itg st.1 i).Dur∈duS u k (itg l i).Value [(itg l i).Dur]
 lf:∀s,S[n]? =some s->0<=s.Left->(itg st.1 s.Left).Dur=(itg l s.Left).Dur\/((mget s.Left st.2).getD false=true/\0<cmpV (itg l s.Left).Dur u/\(itg st.1 s.Left).Dur=subV (itg l s.Left).Dur u)
def zug{u:Tm}{s:Sgm}{c:Int}{l:List Ite}{i:Int}(hi:0<=i)(T:c=1\/c=3->0<=s.Left/\s.Left<l.length)(V:c=2\/c=3->0<=s.Right/\s.Right<l.length)(N:c=4->1<=s.To/\s.To<=l.length)(J:¬s.Left=s.Right\/¬c=3):
 (itg (chN u s c l) i).Dur=if(c=1\/c=3)/\i=s.Left then subV (itg l i).Dur u else if(c=2\/c=3)/\i=s.Right then subV (itg l i).Dur u else if c=4/\i=s.To-1 then addV (itg l i).Dur (itg l i).Dur else(itg l i).Dur:=by
 have nL:∀{a b:Prop},¬a->¬(a/\b):=λh x=>h x.1
 have nR:∀{a b:Prop},¬b->¬(a/\b):=λh x=>h x.2
 unfold chN;simp only;by_cases U:c=4
 ·have n1:¬(c=1\/c=3):=by omega
  have n2:¬(c=2\/c=3):=by omega
  have ht:=N U;rw[j7 n2,j7 n1,j6 U,j7 (nL (b:=i=s.Left) n1),j7 (nL (b:=i=s.Right) n2),zbe (by omega) hi (by omega)];by_cases e:i=s.To-1
  ·rw[j6 e.symm,j6 ⟨U,e⟩,e];rfl
  ·rw[j7 (λh=>e h.symm),j7 (nR (a:=c=4) e)]
 ·rw[j7 U,j7 (nL (b:=i=s.To-1) U)];by_cases h1:c=1\/c=3
  ·obtain⟨a1,a2⟩:=T h1;by_cases Z:c=2\/c=3
   ·obtain⟨b1,b2⟩:=V Z;have hn:¬s.Left=s.Right:=J.resolve_right (by omega);rw[j6 Z,j6 h1,zbe b1 hi (by rw[zfc];exact b2)];by_cases e:i=s.Right
    ·have e':¬i=s.Left:=λh=>hn (h.symm.trans e)
     rw[j6 e.symm,zbe a1 b1 a2,j7 hn,j7 (nR (a:=c=1\/c=3) e'),j6 ⟨Z,e⟩,e];rfl
    ·rw[j7 (λh=>e h.symm),zbe a1 hi a2,j7 (nR (a:=c=2\/c=3) e)];by_cases f:i=s.Left
     ·rw[j6 f.symm,j6 ⟨h1,f⟩,f];rfl
     ·rw[j7 (λh=>f h.symm),j7 (nR (a:=c=1\/c=3) f)]
   ·rw[j7 Z,j6 h1,zbe a1 hi a2,j7 (nL (b:=i=s.Right) Z)];by_cases f:i=s.Left
    ·rw[j6 f.symm,j6 ⟨h1,f⟩,f];rfl
    ·rw[j7 (λh=>f h.symm),j7 (nR (a:=c=1\/c=3) f)]
  ·rw[j7 (nL (b:=i=s.Left) h1)];by_cases Z:c=2\/c=3
   ·obtain⟨b1,b2⟩:=V Z;rw[j6 Z,j7 h1,zbe b1 hi b2];by_cases e:i=s.Right
    ·rw[j6 e.symm,j6 ⟨Z,e⟩,e];rfl
    ·rw[j7 (λh=>e h.symm),j7 (nR (a:=c=2\/c=3) e)]
   ·rw[j7 Z,j7 h1,j7 (nL (b:=i=s.Right) Z)]
def zrZ{u:Tm}{k:Int}{S:List Sgm}{l:List Ite}{M:List Int}(hS:SgsOk k l S):∀n,n<=S.length->okJ u k S l M n=true->DuJ u k l S n (stK u S l M n)
 |0,_,_=>by
  refine⟨λi _ _ _=>rfl,λi _ _=>zBi,λs hs h0=>?_⟩;have:=hS.st s hs;omega
 |n+1,hn,hk=>by
  have hk:(okJ u k S l M n&&decide (M.getD n 0∈alK u k S l M n))=true:=hk;simp only[jA,w4]at hk;have ih:=zrZ hS n (by omega) hk.1;have sk:=zlm hS n (by omega) hk.1;rw[zmD];have hs:S[n]? =some S[n]:=lgg (by omega);have hd:S.getD n default=S[n]:=by rw[jD,hs];rfl
  have T:=hS.all _ (j8 hs);unfold alK at hk;rw[hd]at hk⊢;generalize S[n]=s at*
  generalize stK u S l M n=st at*
  generalize M.getD n 0=c at*
  have hc:=zfY T.ft hk.2;have H:=hk.2;unfold alQ at H;have v8:=sk.len;have f0:=T.f0;have ft:=T.ft;have tl:=T.tl
  have J:(c=1\/c=3)->0<=s.Left/\s.Left<l.length/\s.Left<s.From/\(itg l s.Left).Value<=k/\(itg l s.Left).Fixed=false:=λh=>by
   have:=hc.lf h;rcases T.lf with V|⟨V,G,h4,-,h5⟩
   ·omega
   ·exact⟨V,by omega,by omega,h4,h5⟩
  have xT:(c=2\/c=3)->0<=s.Right/\s.Right<l.length/\s.Right=s.To/\(itg l s.Right).Value<=k/\(itg l s.Right).Fixed=false:=λh=>by
   have:=hc.rt h;rcases T.rt with V|⟨V,G,h4,-,h5⟩
   ·omega
   ·exact⟨by omega,by omega,V,h4,h5⟩
  have x4:c=4->s.From<s.To:=hc.al
  have x0:(c=1\/c=3)->poQ u k st.1 st.2 s=true:=λhh=>by
   rcases zib H with⟨h1,_⟩|⟨h1,V,_⟩|⟨h1,V,_⟩|⟨h1,V,G,_⟩|⟨h1,V,_⟩
   ·omega
   ·exact V
   ·omega
   ·exact V
   ·omega
  have x3:(c=2\/c=3)->anQ u k st.1 s=true:=λhh=>by
   rcases zib H with⟨h1,_⟩|⟨h1,V,_⟩|⟨h1,V,_⟩|⟨h1,V,G,_⟩|⟨h1,V,_⟩
   ·omega
   ·omega
   ·exact V
   ·exact G
   ·omega
  have w9:c=4->atQ u k st.1 s=true:=λhh=>by
   rcases zib H with⟨h1,_⟩|⟨h1,V,_⟩|⟨h1,V,_⟩|⟨h1,V,G,_⟩|⟨h1,V,_⟩
   ·omega
   ·omega
   ·omega
   ·omega
   ·exact V
  have E:=λ(i:Int)(hi:0<=i)=>zug (u:=u) (s:=s) (c:=c) (l:=st.1) hi (λh=>by have:=J h;omega) (λh=>by have:=xT h;omega) (λh=>by have:=x4 h;omega)
   (by by_cases G:c=3
       ·have h5:=J (.inr G);have h6:=xT (.inr G);exact .inl (by omega)
       ·exact .inr G)
  have N:=sk.rest s hs
  have key:∀i:Int,0<=i->i<l.length->((itg l i).Fixed=true->(itg (chN u s c st.1) i).Dur=(itg l i).Dur)/\(itg (chN u s c st.1) i).Dur∈duS u k (itg l i).Value [(itg l i).Dur]:=λi hi x2=>by
   rw[E i hi];split
   ·rename_i h;obtain⟨h1,rfl⟩:=h;obtain⟨a1,a2,a3,a4,a5⟩:=J h1;refine⟨λhf=>(by rw[a5]at hf;cases hf),?_⟩;have U:=x0 h1;unfold poQ at U;simp only[jA]at U;obtain⟨-,⟨x1,Z⟩,-⟩:=U;unfold lgQ at Z;rw[jZ]at Z;rcases ih.lf s hs a1 with e|⟨e1,e2,e3⟩
    ·rw[e]at Z⊢;exact zwG a4 Z
    ·rw[e3]at Z⊢;rw[e1]at x1;have hv:(itg st.1 s.Left).Value<k:=by simpa using x1
     rw[(sk.same s.Left a1).2.1]at hv;exact zBj hv e2 Z
   ·split
    ·rename_i h;obtain⟨h1,rfl⟩:=h;obtain⟨a1,a2,a3,a4,a5⟩:=xT h1;refine⟨λhf=>(by rw[a5]at hf;cases hf),?_⟩;have U:=x3 h1;unfold anQ at U;simp only[jA]at U;obtain⟨-,-,Z,-⟩:=U;unfold lgQ at Z;rw[jZ]at Z;have e:=(N s.Right (by omega)).1;rw[e]at Z⊢;exact zwG a4 Z
    ·split
     ·rename_i h;obtain⟨h1,rfl⟩:=h;have U:=w9 h1;have ht:=x4 h1;unfold atQ ntQ at U;have e:=(N (s.To-1) (by omega)).1;rw[e]at U⊢;simp only[jA,w4,wL]at U;obtain⟨-,⟨⟨-,w2⟩,hv⟩,Z⟩:=And.intro U.1 (And.intro (And.intro (And.intro U.2.1.1.1.1 U.2.1.1.1.2) U.2.1.1.2) U.2.1.2);refine⟨λhf=>(by rw[w2]at hf;cases hf),?_⟩;rw[Z];exact zBk hv
     ·exact⟨ih.fx i hi x2,ih.du i hi x2⟩
  refine⟨λi h1 V=>(key i h1 V).1,λi h1 V=>(key i h1 V).2,λt ht h0=>?_⟩;obtain⟨n1,n2,n3⟩:=hS.nx n s t hs ht;have v9:0<=s.Right:=by omega
  have v5:s.Right=s.To:=by rcases T.rt with h|h<;>omega
  have v4:s.Right<l.length:=by rcases T.rt with h|h<;>omega
  have e:=(N s.Right (by omega)).1;rw[n1];show(itg (chN u s c st.1) s.Right).Dur=_\/((mget s.Right (chL s c st.2)).getD false=true/\_);rw[E s.Right v9];by_cases V:c=2\/c=3
  ·refine .inr ⟨?_,?_,?_⟩
   ·unfold chL;rw[j6 V,ziN,j6 rfl];rfl
   ·have U:=x3 V;unfold anQ at U;simp only[jA]at U;obtain⟨-,-,Z,-⟩:=U;unfold lgQ at Z;rw[jZ,e]at Z;exact Z
   ·rw[e];rw[j7 (λh=>by have:=J h.1;omega),j6 ⟨V,rfl⟩]
  ·refine .inl ?_;rw[e,j7 (λh=>by have:=J h.1;omega),j7 (λh=>V h.1),j7 (λh=>by omega)]
def zyE{m:Mn}{k:Int}{l:List Ite}{M:List Int}(h:apE m k l M=0):(apV m k l M).length=l.length/\∀i:Int,0<=i->i<l.length->sameI (itg (apV m k l M) i) (itg l i)/\((itg l i).Fixed=true->(itg (apV m k l M) i).Dur=(itg l i).Dur)/\(itg (apV m k l M) i).Dur∈duS (unT m k) k (itg l i).Value [(itg l i).Dur]:=by
 obtain⟨h1,U,Z⟩:=zAk h;have V:=zdQ h1;have i1:=zrZ V M.length (by omega) Z;have i2:=zlm V M.length (by omega) Z;unfold apV;rw[j6 h];exact⟨i2.len,λi hi hl=>⟨i2.same i hi,i1.fx i hi hl,i1.du i hi hl⟩⟩
def duQ(m:Mn)(v:Int):Bool:=(duF m v (perfL m) [yw m v]).all λt=>decide (t∈wdL m v 1)||decide (t∈wdL m v 3)||decide (t∈wdL m v 4)
def zuh:zdc duQ=true:=by kernel_rfl
def adQ(ch:List Int)(l:List Sg)(k:Nat):Bool:=(zaO ch l l.length k).2
def zui{m:Mn}{l:List Sg}{ch:List Int}(h:mkE m l ch=0){k:Nat}{s:Sg}(hs:l[k]? =some s)(G:¬s.Kind=3)(V:adQ ch l k=true):¬s.Kind=2/\(s.Color=true\/¬m.p s.Value=3):=by
 obtain⟨J,v1,v8⟩:=zb0 (zfR h) hs G;unfold adQ zaO at V;cases U:l[k+1]? with
 |none=>rw[U]at V;cases V
 |some z=>
  rw[U]at V;simp only at V;split at V
  ·rename_i H;have N:=zms U H.2 l.length H.1;obtain⟨e1,e2⟩:=zxo h
   have T:(mnsD m l)[(yS l (k+1)).length]? =some (mngs m s):=by
    unfold mnsD;rw[jN,N];show some (mnAt m l ((k+1:Nat):Int))=_;unfold mnAt zd8;rw[show(((k+1:Nat):Int)-1).toNat=k by omega,hs]
   have E:=(j5.1 T).1;obtain⟨v,hv⟩:∃v,ch[(yS l (k+1)).length]? =some v:=⟨_,lgg (by omega)⟩;have Z:=zdv.1 e2 _ _ _ T hv;have V:decide (ch.getD (yS l (k+1)).length 0=0)=true:=V;rw[zcv hv,jZ]at V;subst V
   have U:¬(s.Kind=2/\m.aV s.Value=0):=λU=>by
    have:=(ze7 J v1 v8).2 U;rw[List.length_eq_zero_iff.1 this]at Z;simp at Z
   rw[znv J v1 v8 U]at Z;unfold mngR at Z;split at Z
   ·rename_i hk;simp at Z;exact absurd ⟨hk,Z.symm⟩ U
   ·rename_i hk;refine⟨hk,?_⟩;split at Z
    ·rename_i hc;exact .inl hc
    ·split at Z
     ·rename_i hp;exact .inr (by omega)
     ·split at Z
      ·rename_i hp;exact .inr (by omega)
      ·exfalso;split at Z
       ·simp at Z;omega
       ·simp at Z;omega
  ·cases V
def zEE(m:Mn)(v:Int):yw m v∈wdL m v 8:=by unfold wdL;simp
def zEF{m:Mn}{v:Int}(h:¬m.p v=3):mulV (yw m v) ⟨3,2⟩∈wdL m v 2:=by unfold wdL;simp[h]
def zEG(m:Mn)(v:Int):durT m v∈wdL m v 5:=by unfold wdL;simp
def zEH(m:Mn)(v:Int):mulV (durT m v) ⟨3,2⟩∈wdL m v 6:=by unfold wdL;simp
def zBl{m:Mn}(h:m.Pro=2):(⟨3,2⟩:Tm)∈wdL m 4 7:=by unfold wdL;simp[h]
def zBm{m:Mn}(h:m.Pro=2):(⟨1,2⟩:Tm)∈wdL m 5 7:=by unfold wdL;simp[h]
def zpb{m:Mn}{l:List Sg}{mi:List Int}(U:duE m l mi=0){k:Nat}{s:Sg}(hs:l[k]? =some s){x:Tm}(hx:mget (k:Int) (duM m l mi)=some x):m.Pro=2/\clr s=true/\(∀z,l[k+1]? =some z->¬z.Kind=3)/\((s.Value=4/\x=⟨3,2⟩)\/(s.Value=5/\x=⟨1,2⟩)):=by
 have V:∀j:Int,zb m l j=true->m.Pro=2:=λj h=>by unfold zb at h;simp at h;exact h.1
 by_cases h1:zb m l (k:Int)=true
 ·obtain⟨y,N⟩:∃y,mi[(zk m l k).length]? =some y:=⟨_,lgg (pair_lt U h1)⟩;have hm:=(ziK U h1 N).1;rw[hx]at hm;obtain⟨s',t,e1,e2,c1,c2,k1,k2,v1,v2,J⟩:=zox h1;rw[hs]at e1;injection e1 with e1;subst e1;split at hm
  ·injection hm with hm;refine⟨V _ h1,c1,λz Z=>?_,.inl ⟨v1,hm⟩⟩;rw[e2]at Z;injection Z with Z;subst Z;omega
  ·cases hm
 ·have h1:zb m l (k:Int)=false:=by simpa using h1
  by_cases H:∃j:Nat,j+1=k/\zb m l (j:Int)=true
  ·obtain⟨j,rfl,T⟩:=H;obtain⟨y,N⟩:∃y,mi[(zk m l j).length]? =some y:=⟨_,lgg (pair_lt U T)⟩;have hm:=(ziK U T N).2;rw[hx]at hm;obtain⟨s',t,e1,e2,c1,c2,k1,k2,v1,v2,J⟩:=zox T;rw[hs]at e2;injection e2 with e2;subst e2;split at hm
   ·injection hm with hm;exact⟨V _ T,c2,λz Z=>J z Z,.inr ⟨v2,hm⟩⟩
   ·cases hm
  ·have:=zts (mi:=mi) h1 (λj G=>by
    cases E:zb m l (j:Int)with
    |false=>rfl
    |true=>exact absurd ⟨j,G,E⟩ H)
   rw[hx]at this;cases this
def zuj{m:Mn}{l:List Sg}{ch mi:List Int}(h1:mkE m l ch=0)(h2:duE m l mi=0){k:Nat}{s:Sg}(hs:l[k]? =some s)(J:¬s.Kind=3){d:Tm}(hf:(iTM m l ch mi k s).Fixed=true->d=(iTM m l ch mi k s).Dur)(N:d∈duF m s.Value (perfL m) [(iTM m l ch mi k s).Dur]):
 ∃w:Nat,w≠0/\w<9/\d∈wdL m s.Value w/\spOf s.Value (w:Int)=⟨s.Value,decide (s.Kind=2),clr s,adQ ch l k,(w:Int)⟩:=by
 obtain⟨hM,v1,v8⟩:=zb0 (zfR h1) hs J;have hk:=zoj (zfR h1) hs J;have U:=λZ=>zui h1 hs J Z
 have hF:(iTM m l ch mi k s).Fixed=(adQ ch l k||decide (s.Kind=2)||clr s||decide ((zaO ch l l.length k).1=s.Value)):=rfl;have H:(iTM m l ch mi k s).Dur=if adQ ch l k=true then mulV ((mget (k:Int) (duM m l mi)).getD (bsT m s)) ⟨3,2⟩else(mget (k:Int) (duM m l mi)).getD (bsT m s):=rfl
 rw[hF]at hf;rw[H]at hf N;by_cases V:clr s=true
 ·have G:¬s.Kind=2:=by unfold clr at V;simp at V;omega
  rw[jH G,V];have hf:=hf (by rw[V];simp);cases hx:mget (k:Int) (duM m l mi)with
  |some x=>
   obtain⟨hp,-,hz,hv⟩:=zpb h2 hs hx
   have Z:adQ ch l k=false:=by
    unfold adQ zaO;cases E:l[k+1]? with
    |none=>rfl
    |some z=>simp only;rw[j7 (λe=>hz z E e.2)]
   rw[Z]at hf⊢;rw[hx,j7 (by decide)]at hf;rcases hv with⟨e1,e2⟩|⟨e1,e2⟩
   ·refine⟨7,by decide,by decide,?_,by unfold spOf;simp⟩;rw[hf,e1,show(some x).getD (bsT m s)=x from rfl,e2];exact zBl hp
   ·refine⟨7,by decide,by decide,?_,by unfold spOf;simp⟩;rw[hf,e1,show(some x).getD (bsT m s)=x from rfl,e2];exact zBm hp
  |none=>
   rw[hx]at hf;have hb:(none:Option Tm).getD (bsT m s)=durT m s.Value:=by show bsT m s=_;unfold bsT;rw[j6 V]
   rw[hb]at hf;cases Z:adQ ch l k with
   |true=>
    rw[Z,j6 rfl]at hf;exact⟨6,by decide,by decide,by rw[hf];exact zEH _ _,by unfold spOf;simp⟩
   |false=>
    rw[Z,j7 (by decide)]at hf;exact⟨5,by decide,by decide,by rw[hf];exact zEG _ _,by unfold spOf;simp⟩
 ·have xT:clr s=false:=by simpa using V
  have hx:mget (k:Int) (duM m l mi)=none:=by
   cases hx:mget (k:Int) (duM m l mi)with
   |none=>rfl
   |some x=>exact absurd (zpb h2 hs hx).2.1 V
  have hb:(none:Option Tm).getD (bsT m s)=yw m s.Value:=by show bsT m s=_;unfold bsT;rw[j7 V]
  rw[hx,hb]at hf N;rw[xT]at hf⊢;rcases hk with hk|hk
  ·have n2:¬s.Kind=2:=by omega
   rw[jH n2]at hf⊢;cases Z:adQ ch l k with
   |true=>
    rw[Z,j6 rfl]at hf;have T:¬s.Color=true:=λe=>V (by unfold clr;rw[e,jJ hk];rfl)
    exact⟨2,by decide,by decide,by rw[hf (by simp)];exact zEF ((U Z).2.resolve_left T),by unfold spOf;simp⟩
   |false=>
    rw[Z,j7 (by decide)]at N;have hq:=zab zuh hM v1 v8;unfold duQ at hq;rw[jF]at hq;have:=hq d N;simp only[wJ,w4]at this;rcases this with(h|h)|h
    ·exact⟨1,by decide,by decide,h,by unfold spOf;simp⟩
    ·exact⟨3,by decide,by decide,h,by unfold spOf;simp⟩
    ·exact⟨4,by decide,by decide,h,by unfold spOf;simp⟩
  ·have Z:adQ ch l k=false:=by
    cases Z:adQ ch l k with
    |false=>rfl
    |true=>exact absurd hk (U Z).1
   rw[Z,j7 (by decide)]at hf;rw[Z,jJ hk]at*
   exact⟨8,by decide,by decide,by rw[hf (by simp)];exact zEE _ _,by unfold spOf;simp⟩
end
section
def zr0{m:Mn}:∀(L:List Int)(I:List Ite)(C:List Int),(lvF m L I C).2.2=0->(lvF m L I C).2.1.length=I.length/\∀i:Int,0<=i->i<I.length->sameI (itg (lvF m L I C).2.1 i) (itg I i)/\((itg I i).Fixed=true->(itg (lvF m L I C).2.1 i).Dur=(itg I i).Dur)/\(itg (lvF m L I C).2.1 i).Dur∈duF m (itg I i).Value L [(itg I i).Dur]
 |[],I,C,h=>⟨rfl,λi _ _=>⟨zav _,λ_=>rfl,by unfold duF;simp[lvF]⟩⟩
 |k::r,I,C,h=>by
  rw[lvF]at h⊢;split at h
  ·rename_i Z;rw[j6 Z];obtain⟨a1,a2⟩:=zyE (zkn Z);obtain⟨b1,b2⟩:=zr0 r _ _ h;refine⟨b1.trans a1,λi hi hl=>?_⟩;obtain⟨c1,c2,c3⟩:=a2 i hi hl;obtain⟨d1,d2,d3⟩:=b2 i hi (by rw[a1];exact hl);refine⟨d1.tr c1,λhf=>(d2 (c1.2.2.2.2.1.trans hf)).trans (c2 hf),?_⟩;rw[c1.2.1]at d3;unfold duF;exact zmV r (λt ht=>by rw[wR]at ht;rw[ht];exact c3) _ d3
  ·rename_i Z;exact absurd h Z
def gtT(t:Tm):Bool:=decide (ckT t=0)&&decide (48%t.D=0)&&decide (t.N<=122*t.D)
def zyF{t:Tm}(h:gtT t=true):GT 122 t:=by
 unfold gtT at h;simp only[jA,w4]at h;exact⟨h.1.1,Int.dvd_of_emod_eq_zero h.1.2,h.2⟩
def gtW(m:Mn)(v:Int):Bool:=(List.range 9).all λw=>(wdL m v w).all gtT
def zuk:zdc gtW=true:=by kernel_rfl
def zBn{m:Mn}{l:List Sg}(hD:zlj l)(h0:rdE m l=0){t:Tm}(ht:t∈(rdV m l).Durs):ckM m=0/\∃(v:Int)(w:Nat),1<=v/\v<=8/\w<9/\t∈wdL m v w:=by
 have Z:ckD m l=0:=jV λh=>h ((zxu h).1.symm.trans h0)
 have V:leE m (rdI m l)=0:=jV λh=>h ((zxv Z h).1.symm.trans h0)
 rw[(zxw Z V).2]at ht;obtain⟨G,hI⟩:=zAm V;have h1:=zoq (zdx Z).1 Z;have T:=zor Z
 have hF:(lvF m (perfL m) (rdI m l) []).2.2=0:=by
  have:=V;unfold leE at this;rw[j6 G,j6 hI]at this;exact this
 have hJ:leI m (rdI m l)=(lvF m (perfL m) (rdI m l) []).2.1:=by unfold leI;rw[j6 V]
 obtain⟨j1,j2⟩:=zr0 _ _ _ hF;rw[←hJ]at j1 j2;obtain⟨x,hx,rfl⟩:=jW.1 (show t∈(leI m (rdI m l)).map (·.Dur)from ht);obtain⟨i,hi⟩:=jQ.1 hx;have xT:=(j5.1 hi).1;obtain⟨y,N⟩:∃y,(rdI m l)[i]? =some y:=⟨_,lgg (by omega)⟩;have U:(itmV m l (zi m l) (twos (prL m l).length))[i]? =some y:=N;rw[zhf (by unfold itmE;rw[j6 h1,T])]at U;obtain⟨k,s,hk,hs,J,hn,x4⟩:=ziH l.length U;have E:=zxz h1 T hD hs J;rw[hn]at E
 have H:y=iTM m l (zi m l) (twos (prL m l).length) k s:=by
  have:some y=some _:=N.symm.trans E;injection this
 obtain⟨a1,a2,a3⟩:=j2 (i:Int) (by omega) (by omega);rw[znB hi,znB N]at a2 a3;rw[H]at a2 a3;obtain⟨-,v1,v8⟩:=zb0 (zfR h1) hs J;obtain⟨w,w0,w9,w1,w2⟩:=zuj h1 T hs J a2 a3;exact⟨G,s.Value,w,v1,v8,w9,w1⟩
def zBo{m:Mn}{l:List Sg}(V:zlj l)(h0:rdE m l=0):∀t∈(rdV m l).Durs,GT 122 t:=λt ht=>by
 obtain⟨U,v,w,v1,v8,w9,T⟩:=zBn V h0 ht;have Z:=zab zuk U v1 v8;unfold gtW at Z;exact zyF (jF.1 (jF.1 Z w (uR.2 w9)) t T)
end
end Go.Rse
