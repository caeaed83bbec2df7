/-
  Plain.
-/
import Derived.Test.YtamceaedmdmmlaaGreatDoorZJRul4
import Derived.Test.YtamceaedmdmmlaaGreatDoorZJKit1
set_option linter.all false
set_option maxHeartbeats 4000000
namespace Go.Rse
open Go Go.Proofs Go.Proofs.Tryz
attribute [local irreducible] Pur yy yz Ex X Fn Imp LeV LeB FnO It yH
section
def ziH{l:List Sg}{c:List Int}{a:List Bool}{d:List Tm}:∀(n:Nat){i:Nat}{x:Ite},(itK l c a d n)[i]? =some x->∃(k:Nat)(s:Sg),k<n/\l[k]? =some s/\¬s.Kind=3/\ntN l k=i/\x=itOf k s (c.getD i 0) (a.getD i false) (d.getD i ⟨0,0⟩)
 |0,i,x,h=>by simp[itK]at h
 |n+1,i,x,h=>by
  cases hs:l[n]? with
  |none=>
   simp only[itK,hs]at h;obtain⟨k,s,h1,Z⟩:=ziH n h;exact⟨k,s,by omega,Z⟩
  |some s=>
   by_cases U:s.Kind=3
   ·rw[←zla hs U]at h;obtain⟨k,s,h1,Z⟩:=ziH n h;exact⟨k,s,by omega,Z⟩
   ·simp only[itK,hs,j7 U]at h;rw[wM]at h;split at h
    ·obtain⟨k,s,h1,Z⟩:=ziH n h;exact⟨k,s,by omega,Z⟩
    ·rename_i hi;have V:=(j5.1 h).1;rw[zfQ]at hi V h;have e:i=ntN l n:=by simp at V;omega
     subst e;simp at h;exact⟨n,s,by omega,hs,U,rfl,h.symm⟩
def zv8{l:List Sg}{k j:Nat}(h:ntN l j<ntN l k):j<k:=by
 rcases wD j k with h1|h1
 ·exact h1
 ·have:=zgq l j k h1;omega
def zaO(ch:List Int)(l:List Sg)(n k:Nat):Int×Bool:=match l[k+1]? with
 |some z=>if k+1<n/\z.Kind=3 then(ch.getD (yS l (k+1)).length 0,decide (ch.getD (yS l (k+1)).length 0=0))else(0,false)
 |none=>(0,false)
def ze8{l:List Sg}{k j:Nat}{s:Sg}(hs:l[k]? =some s)(h:¬s.Kind=3)(Z:k<j):ntN l k<ntN l j:=by
 have:=zgq l j (k+1) Z;rw[zk6 hs h]at this;omega
def zqI{ch:List Int}{l:List Sg}(hD:∀(i:Nat)z,l[i]? =some z->z.Kind=3->∃(j:Nat)(p:Sg),i=j+1/\l[j]? =some p/\¬p.Kind=3):
 ∀(n k:Nat)(s:Sg),k<n->l[k]? =some s->¬s.Kind=3->(mkK ch l n).1[ntN l k]? =some (zaO ch l n k).1/\(mkK ch l n).2.1[ntN l k]? =some (zaO ch l n k).2
 |0,k,s,h,_,_=>by omega
 |n+1,k,s,hk,hs,N=>by
  have ih:=zqI (ch:=ch) hD n k s;have J:=zk8 ch l n;have H:=(ze5 ch l n).1;have G:=(ze5 ch l n).2.2
  have same:∀(V:¬(k+1=n/\∃z,l[n]? =some z/\z.Kind=3)),k<n->zaO ch l (n+1) k=zaO ch l n k:=λV Z=>by
   unfold zaO;cases U:l[k+1]? with
   |none=>rfl
   |some z=>
    simp only;by_cases h1:k+1<n/\z.Kind=3
    ·rw[j6 h1,j6 ⟨by omega,h1.2⟩]
    ·rw[j7 h1,j7]
     rintro⟨E,h4⟩
     have e:k+1=n:=jV λhn=>h1 ⟨by omega,h4⟩
     exact V ⟨e,z,by rw[←e];exact U,h4⟩
  cases U:l[n]? with
  |none=>
   have Z:k<n:=by
    have h1:=(j5.1 hs).1;have E:=List.getElem?_eq_none_iff.1 U;omega
   have e:mkK ch l (n+1)=mkK ch l n:=by simp only[mkK,U]
   rw[e,same (λx=>by obtain⟨_,z,h1,_⟩:=x;rw[U]at h1;cases h1) Z];exact ih Z hs N
  |some z=>
   by_cases T:z.Kind=3
   ·obtain⟨j,p,hj,hp,xT⟩:=hD n z U T;subst hj
    have Z:k<j+1:=by
     rcases wD k (j+1)with h1|h1
     ·exact h1
     ·have:k=j+1:=by omega
      subst this;rw[U]at hs;injection hs with hs;subst hs;exact absurd T N
    have x3:ntN l (j+1)=ntN l j+1:=zk6 hp xT;obtain⟨i1,i2⟩:=ih Z hs N;rw[zgp U T];have e1:(((mkK ch l (j+1)).1.length:Int)-1).toNat=ntN l j:=by omega
    have e2:(((mkK ch l (j+1)).2.1.length:Int)-1).toNat=ntN l j:=by omega
    rw[e1,e2];by_cases x4:k=j
    ·subst x4
     have ea:zaO ch l (k+1+1) k=(ch.getD (yS l (k+1)).length 0,decide (ch.getD (yS l (k+1)).length 0=0)):=by
      unfold zaO;rw[U];simp only;rw[j6 ⟨by omega,T⟩]
     rw[ea,G];constructor
     ·rw[List.getElem?_set_self (by omega)]
     ·rw[List.getElem?_set_self (by omega)]
    ·have V:ntN l j≠ntN l k:=by have:=ze8 hs N (show k<j by omega);omega
     rw[same (λx=>by omega) Z,List.getElem?_set_ne V,List.getElem?_set_ne V];exact⟨i1,i2⟩
   ·rw[zeo U T];by_cases Z:k<n
    ·obtain⟨i1,i2⟩:=ih Z hs N;rw[same (λx=>by obtain⟨_,z',h1,E⟩:=x;rw[U]at h1;injection h1 with h1;subst h1;exact T E) Z];have g1:=(j5.1 i1).1;have g2:=(j5.1 i2).1;exact⟨by rw[wS g1];exact i1,by rw[wS g2];exact i2⟩
    ·have e:k=n:=by omega
     subst e
     have ea:zaO ch l (k+1) k=(0,false):=by
      unfold zaO;cases l[k+1]? with
      |none=>rfl
      |some z'=>simp only;rw[j7 (by omega)]
     rw[ea];constructor
     ·show((mkK ch l k).1++[0])[ntN l k]? =some 0;rw[←J];simp
     ·show((mkK ch l k).2.1++[false])[ntN l k]? =some false;rw[←J,H];simp
end
section
def zca{m:Mn}{l:List Sg}{x:Int}(h:zb m l x=true):x+1<(l.length:Int)/\clr (l.getD x.toNat default)=true/\(l.getD x.toNat default).Value=4/\clr (l.getD (x+1).toNat default)=true/\(l.getD (x+1).toNat default).Value=5:=by
 unfold zb zau at h;simp only[jA,w4]at h;obtain⟨_,⟨⟨⟨⟨⟨⟨h1,Z⟩,V⟩,U⟩,T⟩,_⟩,_⟩,_⟩:=h;exact⟨h1,Z,V,U,T⟩
def ze9{m:Mn}{l:List Sg}:∀(k:Nat)(x:Int),x∈zk m l k->zb m l x=true/\0<=x/\x<(k:Int)
 |0,x,h=>by unfold zk at h;simp at h
 |k+1,x,h=>by
  unfold zk at h;split at h
  ·rename_i Z;rcases jY.1 h with h|h
   ·have:=ze9 k x h;exact⟨this.1,by omega,by omega⟩
   ·simp at h;subst h;exact⟨Z,by omega,by omega⟩
  ·have:=ze9 k x h;exact⟨this.1,by omega,by omega⟩
def zti{m:Mn}{l:List Sg}{x:Int}(h:x∈prL m l):zb m l x=true/\0<=x/\x<(l.length:Int):=by
 unfold prL at h;split at h
 ·unfold zad at h;exact ze9 _ x h
 ·simp at h
def zms{l:List Sg}{k:Nat}{s:Sg}(hs:l[k]? =some s)(Z:s.Kind=3):∀n,k<n->(yS l n)[(yS l k).length]? =some (k:Int)
 |0,h=>by omega
 |n+1,h=>by
  rcases wD k n with h1|h1
  ·have ih:=zms hs Z n h1;have hl:=(j5.1 ih).1;rw[yS,wM,j6 hl];exact ih
  ·have:k=n:=by omega
   subst this;rw[yS,wM,j7 (by omega)];simp[hs,Z]
def zfa(p mi:List Int)(q:Int):∀k,mget q (zaE p mi k)=none\/∃j,j<k/\(q=p.getD j 0\/q=p.getD j 0+1)
 |0=>.inl (by simp[zaE,zmQ])
 |k+1=>by
  have ih:=zfa p mi q k;unfold zaE;split
  ·rw[zaq,zaq];by_cases h1:p.getD k 0+1=q
   ·exact .inr ⟨k,by omega,.inr h1.symm⟩
   ·by_cases V:p.getD k 0=q
    ·exact .inr ⟨k,by omega,.inl V.symm⟩
    ·rw[j7 h1,j7 V];rcases ih with h|⟨j,U,Z⟩
     ·exact .inl h
     ·exact .inr ⟨j,by omega,Z⟩
  ·rcases ih with h|⟨j,U,Z⟩
   ·exact .inl h
   ·exact .inr ⟨j,by omega,Z⟩
def zxo{m:Mn}{l:List Sg}{ch:List Int}(h:mkE m l ch=0):(mnsD m l).length=ch.length/\chOk ch (mnsD m l):=by
 have Z:=zfR h;unfold mkE at h;rw[j6 Z]at h;split at h
 ·assumption
 ·cases h
end
section
inductive ChG:List (List Int)->List Int->Prop
 |nil:ChG [] []
 |snoc{x:List Int}{R:List (List Int)}{r:List Int}{v:Int}(hv:v∈x)(h:ChG R r):ChG (x::R) (r++[v])
def zv9{L:List (List Int)}{c:List Int}(hl:L.length=c.length)(h:∀(i:Nat)x v,L[i]? =some x->c[i]? =some v->v∈x):∀k,k<=L.length->ChG (L.take k).reverse (c.take k)
 |0,_=>by simpa using ChG.nil
 |k+1,hk=>by
  have hx:L[k]? =some L[k]:=lgg (by omega);have hv:c[k]? =some c[k]:=lgg (by omega);rw[jG,jG,hx,hv];simp only[Option.toList_some,List.reverse_append,List.reverse_cons,List.reverse_nil,vE,uL];exact .snoc (h k _ _ hx hv) (zv9 hl h k (by omega))
theorem zxp{R:List (List Int)}{r:List Int}(Z:ChG R r):r.length=R.length/\∀(i:Nat)x v,R.reverse[i]? =some x->r[i]? =some v->v∈x:=by
 induction Z<;>grind
def zAf{L:List (List Int)}{r:List Int}(Z:ChG L.reverse r):L.length=r.length/\chOk r L:=by
 grind[zxp,List.reverse_reverse,zdv]
def zqJ(x:List Int)(c:Int):Prop:=(∃a,x=[a]/\c=a)\/(∃a b,x=[a,b]/\a<b/\(c=a\/c=b))
theorem zmt{m:Mn}{l:List Sg}{i:Int}{p:Sg}(Z:ckM m=0)(h1:1<=p.Value):zqJ (mngR m p) (zbd m l i p):=by
 have V:=znu (m:=m) h1;unfold zbd mngR
 grind[ownV,zqJ]
def zxq{m:Mn}{l:List Sg}(T:ckM m=0)(Z:ckD m l=0){k:Nat}{x:List Int}{c:Int}(hx:(mnsD m l)[k]? =some x)(U:(zi m l)[k]? =some c):zqJ x c:=by
 rw[mnsD,jN]at hx;rw[zi,jN]at U;cases V:(yS l l.length)[k]? with
 |none=>simp[V]at hx
 |some i=>
  simp[V]at hx U;obtain⟨j,s,p,h1,N,J,H,G⟩:=zle Z (j8 V)
  grind[zld,mnAt,zdk,mngs,zmr,zmt]
def zgw(m:Mn)(l:List Sg):(zi m l).length=(mnsD m l).length:=by
 unfold zi mnsD;simp
def ztj{m:Mn}{l:List Sg}(V:ckM m=0)(U:ckD m l=0):ChG (mnsD m l).reverse (zi m l):=by
 have Z:=zgw m l
 have h:=zv9 (L:=mnsD m l) (c:=zi m l) Z.symm (λi x v hx hv=>by
  rcases zxq V U hx hv with⟨a,rfl,rfl⟩|⟨a,b,rfl,T,rfl|rfl⟩<;>simp) (mnsD m l).length (jE _)
 grind
end
section
def ztk(m:Mn)(l:List Sg):(mnsD m l).length<=l.length:=by
 unfold mnsD;rw[jS];exact zbv l l.length
end
section
def abvK(m:Mn)(v:Int):Bool:=(decide (1<v)&&decide (m.p 1=3))||(decide (2<v)&&decide (m.p 2=3))||(decide (3<v)&&decide (m.p 3=3))||(decide (4<v)&&decide (m.p 4=3))
def zqK{m:Mn}{v k:Int}(h1:1<=k)(Z:k<v)(V:m.p k=3):abvK m v=true:=by
 grind[zrU,abvK]
def ztl{m:Mn}{v:Int}(h:∀k,1<=k->k<v->¬m.p k=3):abvK m v=false:=by
 simp_all[abvK]
def Gr(m:Mn)(l:List Sg):Prop:=∀(i:Nat)s,l[i]? =some s->((s.Kind=1\/s.Kind=2)/\1<=s.Value/\s.Value<=8)\/(s.Kind=3/\∃(j:Nat)(p:Sg),i=j+1/\l[j]? =some p/\(p.Kind=1\/(p.Kind=2/\1<=p.Value/\p.Value<=8/\abvK m p.Value=true)))
def Gr.nil(m:Mn):Gr m []:=λi s h=>by simp at h
end
section
def stp(p n:Int):Int:=if p+n%5-2< -4\/12<p+n%5-2 then 4 else p+n%5-2
def ztm{p n:Int}(h:p+n%5-2< -4\/12<p+n%5-2):4=stp p n:=by unfold stp;rw[j6 h]
def zxr{p n:Int}(h:¬(p+n%5-2< -4\/12<p+n%5-2)):p+n%5-2=stp p n:=by unfold stp;rw[j7 h]
def roA(n:Int):Int:=([0,0,0,0,-1,1,2]:List Int).getD (n/5%7).toNat 0
def ztn(n:Int):([0,0,0,0,-1,1,2]:List Int)[(n/5%7).toNat]? =some (roA n):=by
 grind[roA]
def rsS(v:Int):Sg:=⟨2,v,0,0,false,0,false,false,⟨0,0,0,0⟩,false,0,0,0,0⟩
def ntS(v p n:Int):Sg:=⟨1,v,p,roA n,decide (n/35%6=0),0,false,false,⟨0,0,0,0⟩,false,0,0,0,0⟩
structure Mk where
 l:List Sg
 p:Int
 d:Bool
def roS(m:Mn)(s:Mk)(x:Int):Mk:=
 if x%8=0 then⟨s.l++[rsS (2+x/8%6)],s.p,abvK m (2+x/8%6)⟩
 else if x%8<3/\s.d=true then⟨s.l++[zqT],s.p,false⟩
 else⟨s.l++[ntS (2+x/8%6) (stp s.p (x/48)) (x/48)],stp s.p (x/48),true⟩
def roK(m:Mn)(nums:List Int)(most:Int):Nat->Mk
 |0=>⟨[],4,false⟩
 |k+1=>match nums[k]? with
  |some x=>if((roK m nums most k).l.length:Int)<most then roS m (roK m nums most k) (x%1048576)else roK m nums most k
  |none=>roK m nums most k
def roL(m:Mn)(nums:List Int)(most:Int):List Sg:=(roK m nums most nums.length).l
def zqL{m:Mn}{nums:List Int}{most:Int}{k:Nat}{x:Int}(hx:nums[k]? =some x)(h:((roK m nums most k).l.length:Int)<most):roK m nums most (k+1)=roS m (roK m nums most k) (x%1048576):=by
 simp_all[roK]
def zmu{m:Mn}{nums:List Int}{most:Int}{k:Nat}(h:most<=((roK m nums most k).l.length:Int)):∀d,roK m nums most (k+d)=roK m nums most k
 |0=>rfl
 |d+1=>by
  show roK m nums most ((k+d)+1)=_;have ih:=zmu h d
  grind[roK]
def zxs{m:Mn}{nums:List Int}{most:Int}{k:Nat}(hk:k<=nums.length)(h:¬((k:Int)<nums.length/\((roK m nums most k).l.length:Int)<most)):(roK m nums most k).l=roL m nums most:=by
 unfold roL;by_cases Z:(k:Int)<nums.length
 ·have:most<=((roK m nums most k).l.length:Int):=by
   rcases Int.lt_or_le ((roK m nums most k).l.length:Int) most with h1|h1
   ·exact absurd ⟨Z,h1⟩ h
   ·exact h1
  rw[show nums.length=k+(nums.length-k)by omega,zmu this]
 grind
theorem zto(m:Mn)(s:Mk)(x:Int):(roS m s x).l.length=s.l.length+1:=by
 grind[roS]
def zlf(m:Mn)(nums:List Int){most:Int}(h0:0<=most):∀k,((roK m nums most k).l.length:Int)<=most
 |0=>h0
 |k+1=>by
  have:=zlf m nums h0 k
  grind[roK,zto]
def zp1{m:Mn}{s:Mk}(x:Int)(h:-4<=s.p/\s.p<=12):-4<=(roS m s x).p/\(roS m s x).p<=12:=by
 unfold roS;split
 ·exact h
 grind[stp]
def zkj(m:Mn)(nums:List Int)(most:Int):∀k,-4<=(roK m nums most k).p/\(roK m nums most k).p<=12
 |0=>by simp[roK]
 |k+1=>by
  have ih:=zkj m nums most k;unfold roK;split
  ·split
   ·exact zp1 _ ih
   ·exact ih
  ·exact ih
def zmv{m:Mn}{s:Mk}{x:Int}(h:x%8=0):roS m s x=⟨s.l++[rsS (2+x/8%6)],s.p,abvK m (2+x/8%6)⟩:=by unfold roS;rw[j6 h]
def zop{m:Mn}{s:Mk}{x:Int}(h:¬x%8=0)(Z:x%8<3/\s.d=true):roS m s x=⟨s.l++[zqT],s.p,false⟩:=by simp_all[roS]
def zmw{m:Mn}{s:Mk}{x:Int}(h:¬x%8=0)(Z:¬(x%8<3/\s.d=true)):roS m s x=⟨s.l++[ntS (2+x/8%6) (stp s.p (x/48)) (x/48)],stp s.p (x/48),true⟩:=by simp_all[roS]
def zmx(m:Mn)(l:List Sg)(d:Bool):Prop:=d=true->∃(j:Nat)(p:Sg),l.length=j+1/\l[j]? =some p/\(p.Kind=1\/(p.Kind=2/\1<=p.Value/\p.Value<=8/\abvK m p.Value=true))
def zlg{m:Mn}{l:List Sg}{s:Sg}(h:Gr m l)(hs:((s.Kind=1\/s.Kind=2)/\1<=s.Value/\s.Value<=8)\/(s.Kind=3/\zmx m l true)):Gr m (l++[s]):=λi u Z=>by
 rw[wM]at Z;split at Z
 ·rename_i hi;rcases h i u Z with h1|⟨h1,j,p,V,U,T⟩
  ·exact .inl h1
  ·exact .inr ⟨h1,j,p,V,by rw[wM,j6 (by omega)];exact U,T⟩
 ·rename_i hi;have N:=(j5.1 Z).1;have e:i=l.length:=by simp at N;omega
  subst e;simp at Z;subst Z;rcases hs with h1|⟨h1,V⟩
  ·exact .inl h1
  ·obtain⟨j,p,U,T,J⟩:=V rfl;exact .inr ⟨h1,j,p,U,by rw[wM,j6 (by omega)];exact T,J⟩
def ziI{m:Mn}{l:List Sg}{s:Sg}{d:Bool}(h:d=true->(s.Kind=1\/(s.Kind=2/\1<=s.Value/\s.Value<=8/\abvK m s.Value=true))):zmx m (l++[s]) d:=λZ=>⟨l.length,s,by simp,by simp,h Z⟩
def zxt{m:Mn}{s:Mk}{x:Int}(h:Gr m s.l)(U:zmx m s.l s.d):Gr m (roS m s x).l/\zmx m (roS m s x).l (roS m s x).d:=by
 by_cases h1:x%8=0
 ·rw[zmv h1];exact⟨zlg h (.inl ⟨.inr rfl,by show 1<=2+x/8%6;omega,by show 2+x/8%6<=8;omega⟩),ziI λZ=>.inr ⟨rfl,by show 1<=2+x/8%6;omega,by show 2+x/8%6<=8;omega,Z⟩⟩
 ·by_cases V:x%8<3/\s.d=true
  ·rw[zop h1 V];exact⟨zlg h (.inr ⟨rfl,λ_=>U V.2⟩),λZ=>by simp at Z⟩
  ·rw[zmw h1 V];exact⟨zlg h (.inl ⟨.inl rfl,by show 1<=2+x/8%6;omega,by show 2+x/8%6<=8;omega⟩),ziI λ_=>.inl rfl⟩
def zqM(m:Mn)(nums:List Int)(most:Int):∀k,Gr m (roK m nums most k).l/\zmx m (roK m nums most k).l (roK m nums most k).d
 |0=>by unfold roK;exact⟨Gr.nil m,λh=>by simp at h⟩
 |k+1=>by
  have ih:=zqM m nums most k;unfold roK;split
  ·split
   ·exact zxt ih.1 ih.2
   ·exact ih
  ·exact ih
end
section
def zoq{m:Mn}{l:List Sg}(V:ckM m=0)(Z:ckD m l=0):mkE m l (zi m l)=0:=by
 unfold mkE;rw[j6 Z,j6 (zAf (ztj V Z))]
def zor{m:Mn}{l:List Sg}(Z:ckD m l=0):duE m l (twos (prL m l).length)=0:=by
 unfold duE;rw[j6 Z,j6 ⟨zcc _,by unfold mnOk twos;rw[jF];intro x hx;rw[(List.mem_replicate.1 hx).2];rfl⟩]
def ztp{m:Mn}{l:List Sg}(h:Gr m l):∀(i:Nat)z,l[i]? =some z->z.Kind=3->∃(j:Nat)(p:Sg),i=j+1/\l[j]? =some p/\¬p.Kind=3:=λi z Z N=>by
 rcases h i z Z with h1|⟨_,j,p,V,U,T⟩
 ·omega
 ·exact⟨j,p,V,U,by rcases T with h|h<;>omega⟩
end
section
attribute [local irreducible] mkC mkA mkE duV duE itK itOf ckD mulV mulE
def zlh(m:Mn)(l:List Sg)(ch mi:List Int)(hl:l.length<=1000)(w2:mi.length<=1000):Fn prog 62 [mnA m,sgsA l,yc ch,yc mi] (.tup [itsA (itmV m l ch mi),iv (itmE m l ch mi)]):=by
 refine kR func62 ntmps62 (λg w d=>?_);refine gc (zce m l hl) ?_;refine gd ?_ ?_<;>intro H
 ·have hE:itmE m l ch mi=ckD m l:=by rw[zns (by rw[znr H];exact H),znr H]
  have E:itmV m l ch mi=[]:=ziF (by rw[hE];exact H);apply ye;refine yC ?_;refine kQ ?_;refine kM (yd (ts:=[(8,itsA []),(9,iv (ckD m l))]) (hs:=[])) ?_;refine yl ?_ ?_;all_goals(first|exact zE E|exact zE hE)
 refine gc (zmf m l hl ch) ?_;refine gd ?_ ?_<;>intro U
 ·have hE:itmE m l ch mi=mkE m l ch:=zns U;have E:itmV m l ch mi=[]:=ziF (by rw[hE];exact U);apply ye;refine yC ?_;refine kQ ?_;refine kM (yd (ts:=[(8,itsA []),(9,iv (mkE m l ch))]) (hs:=[])) ?_;refine yl ?_ ?_;all_goals(first|exact zE E|exact zE hE)
 refine gc (zk5 m l mi hl w2) ?_;refine gd ?_ ?_<;>intro xT
 ·have hE:itmE m l ch mi=duE m l mi:=zlb U;have E:itmV m l ch mi=[]:=ziF (by rw[hE];exact xT);apply ye;refine yC ?_;refine kQ ?_;refine kM (yd (ts:=[(8,itsA []),(9,iv (duE m l mi))]) (hs:=[])) ?_;refine yl ?_ ?_;all_goals(first|exact zE E|exact zE hE)
 have hE:itmE m l ch mi=0:=(zlb U).trans xT;have E:=zhf hE;apply yk;apply ye;refine yj ?_;iterate 2 apply yh
 refine kT (yG itE 129 12 15 201 rfl rfl) ?_;apply yf;refine yC ?_;apply kP;have v2:=zv1 l (mkC m l ch) (mkA m l ch) (duV m l mi);refine zm (λk=>[(11,yc (mkC m l ch)),(12,zaX (mkA m l ch)),(14,tmsA (duV m l mi)),(15,.own 201),(47,sgsA l),(48,iv l.length),(49,iv (k:Int))]) (λk=>[(201,.row itE (itK l (mkC m l ch) (mkA m l ch) (duV m l mi) k) 129 12)]) l.length (λk hk=>?_) (h0:=yd);refine gd ?_ ?_<;>intro v0
 ·have v9:=@getX _ l k (by omega);obtain⟨s,hs,u4⟩:=v9;have x4:=zfQ l (mkC m l ch) (mkA m l ch) (duV m l mi) k;have u3:=zk7 l k;refine gd ?_ ?_<;>intro x3
  ·have V:=zla (c:=mkC m l ch) (a:=mkA m l ch) (d:=duV m l mi) hs x3;refine gq ?_;refine yu (k+1)
  obtain⟨x,y,z,hx,hy,hz,x1,u2,hm,v1,v8⟩:=zv3 U xT hs x3;have V:=zqx hs x3 hx hy hz;have u1:(mkC m l ch)[((itK l (mkC m l ch) (mkA m l ch) (duV m l mi) k).length:Int).toNat]? =some x:=by rw[x4];simpa using hx
  have k9:(mkA m l ch)[((itK l (mkC m l ch) (mkA m l ch) (duV m l mi) k).length:Int).toNat]? =some y:=by rw[x4];simpa using hy
  have k8:(duV m l mi)[((itK l (mkC m l ch) (mkA m l ch) (duV m l mi) k).length:Int).toNat]? =some z:=by rw[x4];simpa using hz
  apply yk;apply ye;refine yC ?_;refine zF ⟨[(11,yc (mkC m l ch)),(12,zaX (mkA m l ch)),(14,tmsA (duV m l mi)),(15,.own 201),(18,iv ((itK l (mkC m l ch) (mkA m l ch) (duV m l mi) k).length:Int)),(19,.ptr 19 0 0 0),(47,sgsA l),(48,iv l.length),(49,iv (k:Int))],[(201,.row itE (itK l (mkC m l ch) (mkA m l ch) (duV m l mi) k) 129 12),(19,.box [iv k,iv s.Value,.bool (decide (s.Kind=2)),.bool (decide (s.Kind=1)&&s.Color),.bool false,iv x,iv z.N,iv z.D,iv 0,iv 0,iv 0,iv 0] 129)]⟩ (λx0=>?_) ?_
  ·refine yW [19,59,60,61,62,63,64,65,66,67,68,69,70,71,72,73,74,75,76,77,78,79,80] [0,0,2,0,8,24,0,64,192,448,960,1984,4032,0,0,24576,57344,0,0,393216,917504,2097151,0,8388607] mo ?_;(iterate 10 refine yb ?_);(iterate 2 refine kZ ?_);(iterate 10 refine yb ?_);refine ChM.step rfl rfl rfl (zp (k:=19) zhd) rfl ?_;refine yI ?_;refine kV ?_;apply kW;exact kT yg x0
  refine zF ⟨[(11,yc (mkC m l ch)),(12,zaX (mkA m l ch)),(14,tmsA (duV m l mi)),(15,.own 201),(18,iv ((itK l (mkC m l ch) (mkA m l ch) (duV m l mi) k).length:Int)),(19,.ptr 19 0 0 0),(47,sgsA l),(48,iv l.length),(49,iv (k:Int))],[(201,.row itE (itK l (mkC m l ch) (mkA m l ch) (duV m l mi) k) 129 12),(19,.box [iv k,iv s.Value,.bool (decide (s.Kind=2)),.bool (decide (s.Kind=1)&&s.Color),.bool false,iv x,iv z.N,iv z.D,iv 0,iv 1,iv 0,iv 1] 129)]⟩ (λw9=>?_) ?_
  ·apply yf;(iterate 3 refine ya ?_);refine kV ?_;refine ya ?_;refine kV ?_;apply kW;exact kT yg w9
  refine gd ?_ ?_<;>intro T
  ·rw[←zAc T]at V;refine gc (zd2 z ⟨3,2⟩) ?_;refine gd ?_ ?_<;>intro v5
   ·exact absurd x1 v5
   refine gq ?_;refine yD itE [itL k s true x (mulV z ⟨3,2⟩)] ?_;refine gq ?_;refine yu (k+1)
  refine gd ?_ ?_<;>intro x2
  ·refine gd ?_ ?_<;>intro v4
   ·rw[←zqz T (.inl x2)]at V;refine gq ?_;refine yD itE [itL k s true x z] ?_;refine gq ?_;refine yu (k+1)
   exact absurd x2 v4
  ·refine gd ?_ ?_<;>intro J
   ·refine gd ?_ ?_<;>intro Z
    ·rw[←zqz T (.inr (.inl (by unfold clr;rw[jJ Z.1,Z.2];rfl)))]at V;refine gq ?_;refine yD itE [itL k s true x z] ?_;refine gq ?_;refine yu (k+1)
    exact absurd Z (λZ=>Z.elim (λh=>h J.1) (λh=>by rw[J.2]at h;cases h))
   ·refine gd ?_ ?_<;>intro G
    ·rw[←zqz T (.inr (.inr G))]at V;refine gq ?_;refine yD itE [itL k s true x z] ?_;refine gq ?_;refine yu (k+1)
    rw[←zAd T x2 (by unfold clr;rcases J with h|h<;>simp[h]) G]at V;refine gq ?_;refine yD itE [itL k s false x z] ?_;refine gq ?_;refine yu (k+1)
 ·have v3:k=l.length:=by omega
  subst v3;apply bA;apply ye;refine yC ?_;refine kQ ?_;refine kM (kL (k:=201) rfl) ?_;refine yl ?_ ?_;all_goals(first|exact zE E|exact zE hE)
end
section
def zhg(l:List Int)(x:Int)(hl:l.length<=4000000000):Fn prog 202 [yc l,iv x] (.bool (decide (x∈l))):=by
 refine kR func202 ntmps202 (λg w d=>?_);apply ye;refine yj ?_;apply yh;apply ye;refine yj ?_;apply kP;refine zW (λk=>[(0,yc l),(1,iv x),(5,iv (k:Int))]) (λk=>[]) (λk=>k<=l.length/\∀(i:Nat)u,i<k->l[i]? =some u->¬u=x) l.length (λk hk=>?_) (hJ:=by exact⟨by omega,λi u h=>absurd h (u0 i)⟩) (h0:=yd);obtain⟨N,Z⟩:=hk;refine gd ?_ ?_<;>intro J
 ·have T:=@getX _ l k (by omega);obtain⟨v,hv,H⟩:=T;refine gd ?_ ?_<;>intro V
  ·refine gq ?_;all_goals(congr 1;exact(jJ (by rw[←V];exact j8 hv)).symm)
  refine gq ?_
  refine yu (k+1) (hJ:=by
   refine⟨by omega,λi u hi U=>?_⟩;rcases wG.1 hi with h|h
   ·exact Z i u h U
   ·subst h;rw[hv]at U;injection U with U;subst U;exact V)
 ·refine gq ?_;all_goals(congr 1;exact(jH (ztu λi u hi=>Z i u (by omega))).symm)
def zfp(m:Mn)(l:List Sg)(hl:l.length<=1000)(ch:List Int)(v5:ch.length<=4000000):Fn prog 136 [mnA m,sgsA l,yc ch] (.tup [yc (mkC m l ch),zaX (mkA m l ch),iv (mkE m l ch)]):=by
 obtain⟨L0,hX,hM⟩:∃L0,(ckD m l=0->L0=mnsD m l)/\Fn prog 201 [mnA m,sgsA l] (.tup [zc7 L0,iv (ckD m l)]):=⟨_,λh=>j6 h,C_tactusref09_Meanings' m l hl⟩;refine kR func136 ntmps136 (λg w d=>?_);refine gc hM ?_;refine gd ?_ ?_<;>intro Z
 ·have hE:mkE m l ch=ckD m l:=by unfold mkE;rw[j7 Z]
  have T:mkC m l ch=[]:=by unfold mkC;rw[j7 (by rw[hE];exact Z)]
  have N:mkA m l ch=[]:=by unfold mkA;rw[j7 (by rw[hE];exact Z)]
  apply ye;refine ya ?_;refine yC ?_;refine kQ ?_;refine kM (yd (ts:=[(6,yc []),(7,zaX []),(8,iv (ckD m l))]) (hs:=[])) ?_;refine kY (.many (by decide) (.cons (.tmp rfl (kO ?_)) (.cons (.tmp rfl (kO ?_)) (.cons (.tmp rfl (kO ?_)) .nil))));all_goals(first|exact zE T|exact zE N|exact zE hE)
 have x4:=hX Z;subst x4;have v4:=zgV m l;have H:=ziE Z;have v3:(mnsD m l).length=(yS l l.length).length:=by simp[mnsD]
 refine gd ?_ ?_<;>intro v2
 ·have hE:mkE m l ch=2:=by unfold mkE;rw[j6 Z,j7 (λh=>by have:=h.1;omega)]
  have T:mkC m l ch=[]:=by unfold mkC;rw[j7 (by omega)]
  have N:mkA m l ch=[]:=by unfold mkA;rw[j7 (by omega)]
  apply ye;refine yC ?_;refine kQ ?_;refine kM (yd (ts:=[(6,yc []),(7,zaX []),(8,iv 2)]) (hs:=[])) ?_;refine kY (.many (by decide) (.cons (.tmp rfl (kO ?_)) (.cons (.tmp rfl (kO ?_)) (.cons (.tmp rfl (kO ?_)) .nil))));all_goals(first|exact zE T|exact zE N|exact zE hE)
 apply yk;apply yh;apply ye;refine yj ?_;apply kP;refine zW (λk=>[(1,sgsA l),(2,yc ch),(9,zc7 (mnsD m l)),(11,iv (k:Int))]) (λk=>[]) (λk=>k<=(mnsD m l).length/\∀i,i<k->∀x v,(mnsD m l)[i]? =some x->ch[i]? =some v->v∈x) ((mnsD m l).length) (λk hk=>?_) (hJ:=by exact⟨by omega,λi h=>absurd h (u0 i)⟩) (h0:=yd);obtain⟨v0,G⟩:=hk;refine gd ?_ ?_<;>intro u4
 ·have V:=@getX _ (mnsD m l) k (by omega);obtain⟨x,hx,u3⟩:=V;have V:=@getX _ ch k (by omega);obtain⟨c,E,v9⟩:=V;have u2:=zkD (j8 hx);refine gq ?_;refine yW [36,37,38,39,40,41,42,43,44,45] [0,0,3,7,0,0,48,112,255,511] mo ?_;iterate 8 refine yb ?_
  refine yO (zhg x c (by omega)) ?_;refine yb ?_;refine yI ?_;refine gd ?_ ?_<;>intro xT
  ·have hE:mkE m l ch=2:=by unfold mkE;rw[j6 Z,j7 (λh=>xT (zdv.1 h.2 k x c hx E))]
   have T:mkC m l ch=[]:=by unfold mkC;rw[j7 (by omega)]
   have N:mkA m l ch=[]:=by unfold mkA;rw[j7 (by omega)]
   apply ye;refine yC ?_;refine kQ ?_;refine kM (yd (ts:=[(6,yc []),(7,zaX []),(8,iv 2)]) (hs:=[])) ?_;refine kY (.many (by decide) (.cons (.tmp rfl (kO ?_)) (.cons (.tmp rfl (kO ?_)) (.cons (.tmp rfl (kO ?_)) .nil))));all_goals(first|exact zE T|exact zE N|exact zE hE)
  refine gq ?_
  refine yu (k+1) (hJ:=by
   refine⟨by omega,λi hi x1 v1 h1 h2=>?_⟩;rcases wG.1 hi with h|h
   ·exact G i h x1 v1 h1 h2
   ·subst h;rw[hx]at h1;rw[E]at h2;injection h1 with h1;injection h2 with h2;subst h1;subst h2;exact xT)
 ·have hok:chOk ch (mnsD m l):=zdv.2 λi x v hx hv=>G i (by have:=(j5.1 hx).1;omega) x v hx hv
  have hE:mkE m l ch=0:=by unfold mkE;rw[j6 Z,j6 ⟨by omega,hok⟩]
  have T:mkC m l ch=(mkK ch l l.length).1:=by unfold mkC;rw[j6 hE]
  have N:mkA m l ch=(mkK ch l l.length).2.1:=by unfold mkA;rw[j6 hE]
  apply bA;apply ye;refine ya ?_;apply yE;refine ya ?_;apply yE;refine yj ?_;iterate 2 apply yh
  refine kT (yG intE 3 1 12 101 rfl rfl) ?_;refine kT (yG zba 4 1 13 102 rfl rfl) ?_;apply yf;refine yj ?_;apply kP;refine zm (λk=>[(1,sgsA l),(2,yc ch),(12,.own 101),(13,.own 102),(14,iv ((mkK ch l k).2.2:Int)),(15,iv (k:Int))]) (λk=>[(101,.row intE (mkK ch l k).1 3 1),(102,.row zba (mkK ch l k).2.1 4 1)]) l.length (λk hk=>?_) (h0:=yd);refine gd ?_ ?_<;>intro u1
  ·have V:=@getX _ l k (by omega);obtain⟨s,hs,k9⟩:=V;obtain⟨k8,k7,k6⟩:=ze5 ch l k;refine gd ?_ ?_<;>intro U
   ·have J:=zeo (ch:=ch) hs U;have x3:(mkK ch l k).1++[0]=(mkK ch l (k+1)).1:=by rw[J]
    have x2:(mkK ch l k).2.1++[false]=(mkK ch l (k+1)).2.1:=by rw[J]
    have x0:((mkK ch l k).2.2:Int)=((mkK ch l (k+1)).2.2:Int):=by rw[J]
    refine gq ?_;refine yD intE [_] ?_;refine gq ?_;refine yD zba [_] ?_;refine gq ?_;refine yu (k+1)
   have J:=zgp (ch:=ch) hs U;have k5:=zfO l l.length (k+1) (by omega);have k4:(yS l (k+1)).length=(yS l k).length+1:=by simp[yS,hs,U]
   have w9:=zoi H hs U;have v8:=zk3 (ch:=ch) H k w9 (by omega);have k3:ch[((mkK ch l k).2.2:Int).toNat]? =some (ch.getD (mkK ch l k).2.2 0):=by rw[wN,jD,lgg (by omega)];rfl
   have x3:(mkK ch l k).1.set (((mkK ch l k).1.length:Int)-1).toNat (ch.getD (mkK ch l k).2.2 0)=(mkK ch l (k+1)).1:=by rw[J]
   have x2:(mkK ch l k).2.1.set (((mkK ch l k).2.1.length:Int)-1).toNat (decide (ch.getD (mkK ch l k).2.2 0=0))=(mkK ch l (k+1)).2.1:=by rw[J]
   have x0:((mkK ch l k).2.2:Int)+1=((mkK ch l (k+1)).2.2:Int):=by rw[J];simp
   refine gq ?_;refine yu (k+1)
  ·have w2:k=l.length:=by omega
   subst w2;apply bA;apply ye;(iterate 2 refine ya ?_);refine yC ?_;refine kQ ?_;refine kM ((kL (k:=101) rfl).trans (kL (k:=102) rfl)) ?_;refine kY (.many (by decide) (.cons (.tmp rfl (kO ?_)) (.cons (.tmp rfl (kO ?_)) (.cons (.tmp rfl (kO ?_)) .nil))));all_goals(first|exact zE T|exact zE N|exact zE hE)
attribute [local irreducible] mnsD ckD
end
section
def rmOk(m:Mn)(v:Int):Bool:=decide (rmV (yw m v) ⟨3,2⟩=mulV (yw m v) ⟨3,2⟩)&&decide (rmV (durT m v) ⟨3,2⟩=mulV (durT m v) ⟨3,2⟩)
def zqN:zdc rmOk=true:=by kernel_rfl
def zAg{m:Mn}{s:Sg}{z:Tm}(hm:ckM m=0)(h1:1<=s.Value)(Z:s.Value<=8)(V:z=bsT m s\/z=⟨3,2⟩\/z=⟨1,2⟩):rmV z ⟨3,2⟩=mulV z ⟨3,2⟩:=by
 rcases V with rfl|rfl|rfl
 ·have h:=zab zqN hm h1 Z;unfold rmOk at h;simp only[jA,w4]at h;unfold bsT;split
  ·exact h.2
  ·exact h.1
 ·decide+kernel
 ·decide+kernel
attribute [local irreducible] mkC mkA mkE duV duE itK itOf ckD mulV mulE rmV rmE
def zfq(m:Mn)(l:List Sg)(ch mi:List Int)(hl:l.length<=1000)(x2:ch.length<=4000000)(x1:mi.length<=1000):Fn prog 89 [mnA m,sgsA l,yc ch,yc mi] (.tup [itsA (itmV m l ch mi),iv (itmE m l ch mi)]):=by
 refine kR func89 ntmps89 (λg w d=>?_);refine gc (zfp m l hl ch x2) ?_;refine gd ?_ ?_<;>intro Z
 ·have hE:itmE m l ch mi=mkE m l ch:=zns Z;have G:itmV m l ch mi=[]:=ziF (by rw[hE];exact Z);apply ye;refine yC ?_;refine kQ ?_;refine kM (yd (ts:=[(8,itsA []),(9,iv (mkE m l ch))]) (hs:=[])) ?_;refine yl ?_ ?_;all_goals(first|exact zE G|exact zE hE)
 refine gc (zfP m l mi hl x1) ?_;refine gd ?_ ?_<;>intro J
 ·have hE:itmE m l ch mi=duE m l mi:=zlb Z;have G:itmV m l ch mi=[]:=ziF (by rw[hE];exact J);apply ye;refine yC ?_;refine kQ ?_;refine kM (yd (ts:=[(8,itsA []),(9,iv (duE m l mi))]) (hs:=[])) ?_;refine yl ?_ ?_;all_goals(first|exact zE G|exact zE hE)
 have hE:itmE m l ch mi=0:=(zlb Z).trans J;have G:=zhf hE;apply yk;apply ye;refine yj ?_;iterate 2 apply yh
 refine kT (yG itE 129 12 14 201 rfl rfl) ?_;apply yf;refine yj ?_;apply kP;have v4:=zv1 l (mkC m l ch) (mkA m l ch) (duV m l mi);refine zm (λk=>[(1,sgsA l),(10,yc (mkC m l ch)),(11,zaX (mkA m l ch)),(13,tmsA (duV m l mi)),(14,.own 201),(15,iv (k:Int))]) (λk=>[(201,.row itE (itK l (mkC m l ch) (mkA m l ch) (duV m l mi) k) 129 12)]) l.length (λk hk=>?_) (h0:=yd);refine gd ?_ ?_<;>intro v3
 ·have x0:=@getX _ l k (by omega);obtain⟨s,hs,v2⟩:=x0;have H:=zfQ l (mkC m l ch) (mkA m l ch) (duV m l mi) k;have v0:=zk7 l k;refine gd ?_ ?_<;>intro V
  ·have E:=zla (c:=mkC m l ch) (a:=mkA m l ch) (d:=duV m l mi) hs V;refine gq ?_;refine yu (k+1)
  obtain⟨x,y,z,hx,hy,hz,v9,u4,hm,v1,v8,w9⟩:=zv3 Z J hs V;have E:=zqx hs V hx hy hz;have u3:(mkC m l ch)[((itK l (mkC m l ch) (mkA m l ch) (duV m l mi) k).length:Int).toNat]? =some x:=by rw[H];simpa using hx
  have u2:(mkA m l ch)[((itK l (mkC m l ch) (mkA m l ch) (duV m l mi) k).length:Int).toNat]? =some y:=by rw[H];simpa using hy
  have u1:(duV m l mi)[((itK l (mkC m l ch) (mkA m l ch) (duV m l mi) k).length:Int).toNat]? =some z:=by rw[H];simpa using hz
  have U:=zoj (zfR Z) hs V;have v5:[iv k,iv s.Value,.bool (decide (s.Kind=2)),.bool (s.Color&&!decide (s.Kind=2)),.bool false,iv x,iv z.N,iv z.D,iv 0,iv 1,iv 0,iv 1]=[iv k,iv s.Value,.bool (decide (s.Kind=2)),.bool (decide (s.Kind=1)&&s.Color),.bool false,iv x,iv z.N,iv z.D,iv 0,iv 1,iv 0,iv 1]:=by rw[zxi U]
  have T:=zgr z ⟨3,2⟩;rw[zAg hm v1 v8 w9]at T;rw[←zAb U]at E;apply yk;apply ye;refine yC ?_;refine zF ⟨[(1,sgsA l),(10,yc (mkC m l ch)),(11,zaX (mkA m l ch)),(13,tmsA (duV m l mi)),(14,.own 201),(15,iv (k:Int)),(16,iv ((itK l (mkC m l ch) (mkA m l ch) (duV m l mi) k).length:Int)),(17,.ptr 17 0 0 0)],[(201,.row itE (itK l (mkC m l ch) (mkA m l ch) (duV m l mi) k) 129 12),(17,.box [iv k,iv s.Value,.bool (decide (s.Kind=2)),.bool false,.bool false,iv x,iv z.N,iv z.D,iv 0,iv 1,iv 0,iv 1] 129)]⟩ (λxT=>?_) ?_
  ·refine yW [17,53,54,55,56,57,58,59,60,61,62,63,64,65,66,67,68,69,70,71,72,73,74,75] [0,0,0,6,14,30,0,0,192,448,960,1984,0,0,12288,28672,0,0,196608,458752,0,0,4194303,0,16777215] mo ?_;(iterate 23 refine yb ?_);refine ChM.step rfl rfl rfl (zp (k:=17) zhd) rfl ?_;refine yI ?_;refine kV ?_;apply kW;exact kT yg xT
  refine zF ⟨[(1,sgsA l),(10,yc (mkC m l ch)),(11,zaX (mkA m l ch)),(13,tmsA (duV m l mi)),(14,.own 201),(15,iv (k:Int)),(16,iv ((itK l (mkC m l ch) (mkA m l ch) (duV m l mi) k).length:Int)),(17,.ptr 17 0 0 0)],[(201,.row itE (itK l (mkC m l ch) (mkA m l ch) (duV m l mi) k) 129 12),(17,.box [iv k,iv s.Value,.bool (decide (s.Kind=2)),.bool (decide (s.Kind=1)&&s.Color),.bool false,iv x,iv z.N,iv z.D,iv 0,iv 1,iv 0,iv 1] 129)]⟩ (λx4=>?_) ?_
  ·apply yf;(iterate 5 refine ya ?_);refine kU 5 ?_;refine yo ?_;(iterate 3 refine kS ?_);refine zdM ?_;(iterate 2 refine ya ?_);refine kV ?_;apply kW;exact kT yg x4
  refine gd ?_ ?_<;>intro x3
  ·subst x3;refine gq ?_;refine yR T ?_;(iterate 4 refine ya ?_);refine kV ?_;apply yE;(iterate 2 refine ya ?_);refine kU 2 ?_;refine yo ?_;(iterate 2 refine kS ?_);(iterate 2 refine yo ?_);(iterate 4 refine kS ?_);(iterate 2 refine yo ?_);(iterate 5 refine kS ?_);refine ge ?_;refine yD itE [itL k s (decide (s.Kind=2)||(decide (s.Kind=1)&&s.Color)||true||decide (x=s.Value)) x (mulV z ⟨3,2⟩)] ?_;refine gq ?_;refine yu (k+1)
  ·subst x3;apply yk;apply ye;(iterate 2 refine ya ?_);refine kU 2 ?_;refine yo ?_;(iterate 2 refine kS ?_);(iterate 2 refine yo ?_);(iterate 4 refine kS ?_);(iterate 2 refine yo ?_);(iterate 5 refine kS ?_);refine ge ?_;refine yD itE [itL k s (decide (s.Kind=2)||(decide (s.Kind=1)&&s.Color)||false||decide (x=s.Value)) x z] ?_;refine gq ?_;refine yu (k+1)
 ·have w2:k=l.length:=by omega
  subst w2;apply bA;apply ye;refine yC ?_;refine kQ ?_;refine kM (kL (k:=201) rfl) ?_;refine yl ?_ ?_;all_goals(first|exact zE G|exact zE hE)
end
section
attribute [local irreducible] ckD zi twos prL
def zmy(m:Mn)(l:List Sg)(hl:l.length<=1000):Fn prog 61 [mnA m,sgsA l] (.tup [yc (if ckD m l=0 then zi m l else[]),yc (twos (prL m l).length),iv (ckD m l)]):=by
 refine kR func61 ntmps61 (λg w d=>?_);refine gc (znp m l hl) ?_;refine gd ?_ ?_<;>intro Z
 ·have ht:[]=twos (prL m l).length:=by rw[znJ Z];unfold twos;rfl
  have hr:[]=(if ckD m l=0 then zi m l else[]):=by rw[j7 Z]
  apply ye;refine ya ?_;refine yC ?_;refine kQ ?_;refine kM (yd (ts:=[(4,yc []),(5,yc []),(6,iv (ckD m l))]) (hs:=[])) ?_;refine kY (.many (by decide) (.cons (.tmp rfl (kO ?_)) (.cons (.tmp rfl (kO ?_)) (.cons (.tmp rfl (kO ?_)) .nil))));all_goals(first|exact j9 yc ht|exact j9 yc hr|rfl)
 refine gc (zlz m l hl) ?_;refine gd ?_ ?_<;>intro V
 ·exact absurd Z V
 refine gq ?_;refine kY (.many (by decide) (.cons (.tmp rfl (kO ?_)) (.cons (.tmp rfl (kO ?_)) (.cons (.tmp rfl (kO ?_)) .nil))));all_goals(first|rfl|exact j9 (AV.int .i64) Z.symm)
end
end Go.Rse
