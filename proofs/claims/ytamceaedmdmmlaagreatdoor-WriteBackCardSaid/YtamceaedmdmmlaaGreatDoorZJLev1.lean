/-
  Plain.
-/
import Derived.Test.YtamceaedmdmmlaaGreatDoorZJLev0
set_option linter.all false
set_option maxHeartbeats 4000000
namespace Go.Rse
open Go Go.Proofs Go.Proofs.Tryz
attribute [local irreducible] Pur yy yz Ex X Fn Imp LeV LeB FnO It yH
section
structure BdOk(k:Int)(l:List Ite)(n:Nat)(b:Bd):Prop where
 it:b.item=-1\/(0<=b.item/\b.next=b.item+1/\isH k (itg l b.item))
 lo:0<=b.next
 hi:b.next<=n
def znB{l:List Ite}{n:Nat}{x:Ite}(h:l[n]? =some x):itg l (n:Int)=x:=by
 simp_all
theorem znC(k:Int)(l:List Ite):∀n,n<=l.length->(∀b∈bdK k l n,BdOk k l n b/\b.fin=false)/\(bdK k l n).Pairwise (λb c=>b.next<=bdF c)
 |0,_=>by
  grind[bdK,BdOk]
 |n+1,hn=>by
  obtain⟨h1,U⟩:=znC k l n (by omega);have hx:l[n]? =some l[n]:=lgg (by omega);rw[zdy hx];have T:=znB hx;generalize l[n]=x at*
  have a1:∀b∈bdK k l n++(if isH k x then[(⟨n,n+1,false⟩:Bd)]else[]),BdOk k l (n+1) b/\b.fin=false:=by
   grind[BdOk]
  have a2:(bdK k l n++(if isH k x then[(⟨n,n+1,false⟩:Bd)]else[])).Pairwise (λb c=>b.next<=bdF c):=by
   refine vM.2 ⟨U,?_,?_⟩
   ·split<;>simp
   ·intro b V c Z;split at Z
    ·simp at Z;subst Z;have:=(h1 b V).1.hi
     grind
    ·simp at Z
  constructor
  ·grind[BdOk]
  ·refine vM.2 ⟨a2,?_,?_⟩
   ·split<;>simp
   ·intro b V c Z;split at Z
    ·simp at Z;subst Z;have:=(a1 b V).1.hi
     grind
    ·simp at Z
def znD(k:Int)(l:List Ite):(∀b∈bds k l,BdOk k l l.length b)/\(bds k l).Pairwise (λb c=>b.next<=bdF c):=by
 grind[znC,bds,BdOk]
theorem zmF(k:Int)(l:List Ite):∀n,(bdK k l n)[0]? =some ⟨-1,0,false⟩
 |0=>rfl
 |n+1=>by
  have h:=zmF k l n
  grind[bdK]
def zfd(k:Int)(l:List Ite):(bds k l).length=(bdK k l l.length).length+1:=by unfold bds;simp
def zmG(k:Int)(l:List Ite):(bds k l)[0]? =some ⟨-1,0,false⟩:=by
 grind[bds,zmF]
def ztz{k:Int}{l:List Ite}{i:Nat}{b:Bd}(h:(bds k l)[i]? =some b):b.fin=decide (i+1=(bds k l).length):=by
 grind[bds,znC]
structure SgOk(k:Int)(l:List Ite)(s:Sgm):Prop where
 f0:0<=s.From
 ft:s.From<=s.To
 tl:s.To<=l.length
 lf:s.Left=-1\/(0<=s.Left/\s.Left+1=s.From/\(itg l s.Left).Value<=k/\(itg l s.Left).Color=false/\(itg l s.Left).Fixed=false)
 rt:s.Right=-1\/(s.Right=s.To/\s.To<l.length/\(itg l s.Right).Value<=k/\(itg l s.Right).Color=false/\(itg l s.Right).Fixed=false)
structure SgsOk(k:Int)(l:List Ite)(S:List Sgm):Prop where
 all:∀s∈S,SgOk k l s
 nx:∀n s t,S[n]? =some s->S[n+1]? =some t->t.Left=s.Right/\s.To<=t.From/\(0<=s.Right->t.From=s.To+1)
 st:∀s,S[0]? =some s->s.Left=-1
def znE{k:Int}{l:List Ite}{n:Nat}{b:Bd}(h:BdOk k l n b):hdI l b=-1\/(0<=b.item/\hdI l b=b.item/\b.next=b.item+1/\(itg l b.item).Value<=k/\(itg l b.item).Color=false/\(itg l b.item).Fixed=false):=by
 unfold hdI;split
 ·exact .inl rfl
 ·rename_i Z;have h1:¬b.item<0:=λh=>Z (.inl h)
  have U:(itg l b.item).Fixed=false:=by
   cases hf:(itg l b.item).Fixed with
   |false=>rfl
   |true=>exact absurd (.inr hf) Z
  rcases h.it with V|⟨V,T,N⟩;all_goals simp_all
theorem zxH{k:Int}{l:List Ite}{b c:Bd}(T:BdOk k l l.length b)(V:BdOk k l l.length c)(h:b.next<=bdF c):SgOk k l (sg0 l b c):=by
 have H:bdF c<=c.next:=by
  unfold bdF;rcases V.it with Z|⟨Z,U,N⟩;all_goals omega
 refine⟨T.lo,h,by have:=V.hi;grind[sg0],?_,?_⟩
 ·rcases znE T with Z|⟨Z,U,N,J⟩;all_goals grind[sg0]
 ·rcases znE V with Z|⟨Z,U,N,J⟩
  ·exact .inl Z
  ·refine .inr ?_;have G:bdF c=c.item:=by simp_all
   show hdI l c=bdF c/\bdF c<l.length/\(itg l (hdI l c)).Value<=k/\(itg l (hdI l c)).Color=false/\(itg l (hdI l c)).Fixed=false;rw[U,G];exact⟨rfl,by have:=V.hi;omega,J⟩
theorem zia{l:List Ite}{B:List Bd}{i:Nat}{s:Sgm}(h:(sgs0 l B)[i]? =some s):∃b c,B[i]? =some b/\B[i+1]? =some c/\s=sg0 l b c:=by
 have hi:=(j5.1 h).1;rw[zer]at hi;have Z:B[i]? =some B[i]:=lgg (by omega)
 grind[ziL]
theorem ztA{B:List Bd}(h:B.Pairwise (λb c=>b.next<=bdF c)){i:Nat}{b c:Bd}(Z:B[i]? =some b)(V:B[i+1]? =some c):b.next<=bdF c:=by
 grind[List.pairwise_iff_getElem]
def zll(k:Int)(l:List Ite):SgsOk k l (sgs0 l (bds k l)):=by
 obtain⟨h1,H⟩:=znD k l;refine⟨?_,?_,?_⟩
 ·grind[List.getElem?_of_mem,zia,zxH,ztA]
 ·intro n s t hs ht;obtain⟨b,c,V,U,rfl⟩:=zia hs;obtain⟨c',d,Z,G,rfl⟩:=zia ht;rw[U]at Z;cases Z;have ho:=h1 c (j8 U);refine⟨rfl,?_,?_⟩
  ·show bdF c<=c.next;unfold bdF;rcases ho.it with T|⟨T,N,J⟩;all_goals omega
  ·intro h;have h:0<=hdI l c:=h;show c.next=bdF c+1;rcases znE ho with T|⟨T,N,J,E⟩;all_goals simp_all
 ·intro s hs;obtain⟨b,c,V,U,rfl⟩:=zia hs;rw[zmG]at V;cases V;rfl
def SgOk.cnt{k:Int}{l:List Ite}{s:Sgm}(h:SgOk k l s)(t:Tm):SgOk k l {s with Count:=t}:=⟨h.f0,h.ft,h.tl,h.lf,h.rt⟩
def zdQ{m:Mn}{k:Int}{l:List Ite}(h:segE m k l=0):SgsOk k l (segV m k l):=by
 have h0:=zll k l;unfold segV;rw[j6 h];refine⟨?_,?_,?_⟩
 ·intro s hs;obtain⟨t,ht,rfl⟩:=jW.1 hs;exact(h0.all t ht).cnt _
 ·intro n s t hs ht;rw[jN]at hs ht;obtain⟨s',Z,rfl⟩:=xP.1 hs;obtain⟨t',V,rfl⟩:=xP.1 ht;exact h0.nx n s' t' Z V
 ·intro s hs;rw[jN]at hs;obtain⟨s',Z,rfl⟩:=xP.1 hs;exact h0.st s' Z
def zdA{m:Mn}{k:Int}{l:List Ite}(h:segE m k l=0):unE m k=0/\ckIE l=0/\segX (unT m k) l (sgs0 l (bds k l))=0:=by
 grind[segE]
def zAp{u:Tm}{l:List Ite}{s:Sgm}(h:segR u l s=0):cnE u l s=0/\(s.Free=true\/(cnV u l s).D=1):=by
 grind[segR]
def zgD{m:Mn}{k:Int}{l:List Ite}(h:segE m k l=0):∀s∈segV m k l,s.Free=true\/s.Count.D=1:=by
 unfold segV;rw[j6 h];intro s hs;obtain⟨t,ht,rfl⟩:=jW.1 hs;exact(zAp (zoz (zdA h).2.2 t ht)).2
def sameI(x y:Ite):Prop:=x.Sign=y.Sign/\x.Value=y.Value/\x.Rest=y.Rest/\x.Color=y.Color/\x.Fixed=y.Fixed/\x.Cut=y.Cut
theorem zav(x:Ite):sameI x x:=⟨rfl,rfl,rfl,rfl,rfl,rfl⟩
def sameI.tr{x y z:Ite}(h:sameI x y)(g:sameI y z):sameI x z:=⟨h.1.trans g.1,h.2.1.trans g.2.1,h.2.2.1.trans g.2.2.1,h.2.2.2.1.trans g.2.2.2.1,h.2.2.2.2.1.trans g.2.2.2.2.1,h.2.2.2.2.2.trans g.2.2.2.2.2⟩
theorem zbe{l:List Ite}{i j:Int}{f:Ite->Ite}(hi:0<=i)(Z:0<=j)(hl:i<l.length):itg (upI l i f) j=if i=j then f (itg l i)else itg l j:=by
 grind[upI]
def ziM{l:List Ite}{i j:Int}{f:Ite->Ite}(hf:∀x,sameI (f x) x)(hi:0<=i)(Z:0<=j)(hl:i<l.length):sameI (itg (upI l i f) j) (itg l j):=by
 grind[zbe,zav]
def znF(u:Tm)(x:Ite):sameI (zaD u x) x:=zav _
def znG(u:Tm)(x:Ite):sameI (zaI u x) x:=zav _
def zp3(x:Ite):sameI (dblI x) x:=zav _
structure ChOk(s:Sgm)(c:Int):Prop where
 lf:c=1\/c=3->0<=s.Left
 rt:c=2\/c=3->0<=s.Right
 al:c=4->s.From<s.To
def zib{p a t:Bool}{s:Sgm}{c:Int}(h:c∈alR p a t s):(c=0/\(s.Count.N%3=0\/s.Free=true))\/(c=1/\p=true/\s.Count.N%3=1)\/(c=2/\a=true/\s.Free=false/\s.Count.N%3=1)\/(c=3/\p=true/\a=true/\s.Free=false/\s.Count.N%3=2)\/(c=4/\t=true/\s.Free=false/\s.Count.N%3=2):=by
 unfold alR at h;simp only[jY]at h;rcases h with(((h|h)|h)|h)|h
 ·split at h
  ·simp at h;exact .inl ⟨h,by assumption⟩
  ·simp at h
 all_goals simp_all
def zwd{u:Tm}{k:Int}{l:List Ite}{L:List (Int×Bool)}{s:Sgm}(h:poQ u k l L s=true):0<=s.Left/\lgQ u (itg l s.Left)=true/\rcQ u (fsL (itR l s)) (itg l s.Left).After=true:=by
 simp_all[poQ]
def zwe{u:Tm}{k:Int}{l:List Ite}{s:Sgm}(h:anQ u k l s=true):0<=s.Right/\lgQ u (itg l s.Right)=true/\rcQ u (lasL (itR l s)) (itg l s.Right).Before=true:=by
 simp_all[anQ]
def zAq{u:Tm}{k:Int}{l:List Ite}{s:Sgm}(h:atQ u k l s=true):¬s.From=s.To/\ntQ u k (itg l (s.To-1))=true:=by
 simp_all[atQ]
def zfY{u:Tm}{k:Int}{l:List Ite}{L:List (Int×Bool)}{s:Sgm}{c:Int}(hs:s.From<=s.To)(h:c∈alQ u k l L s):ChOk s c:=by
 unfold alQ at h;rcases zib h with⟨h1,_⟩|⟨h1,Z,_⟩|⟨h1,Z,_⟩|⟨h1,Z,V,_⟩|⟨h1,Z,_⟩
 ·exact⟨by omega,by omega,by omega⟩
 ·exact⟨λ_=>(zwd Z).1,by omega,by omega⟩
 ·exact⟨by omega,λ_=>(zwe Z).1,by omega⟩
 ·exact⟨λ_=>(zwd Z).1,λ_=>(zwe V).1,by omega⟩
 ·exact⟨by omega,by omega,λ_=>by have:=(zAq Z).1;omega⟩
def ztB{k:Int}{u:Tm}{s:Sgm}{c:Int}{l0 l:List Ite}(hs:SgOk k l0 s)(hl:l.length=l0.length)(T:ChOk s c){i:Int}(hi:0<=i):
 sameI (itg (chN u s c l) i) (itg l i)/\(¬i=s.Left->¬i=s.Right->¬i=s.To-1->itg (chN u s c l) i=itg l i)/\(¬i=s.Left->(itg (chN u s c l) i).After=(itg l i).After):=by
 unfold chN;simp only;have A:(if c=1\/c=3 then upI l s.Left (zaD u)else l).length=l.length:=by split<;>simp[zfc]
 have B:(if c=2\/c=3 then upI (if c=1\/c=3 then upI l s.Left (zaD u)else l) s.Right (zaI u)else(if c=1\/c=3 then upI l s.Left (zaD u)else l)).length=l.length:=by split<;>simp[zfc,A]
 have h1:sameI (itg (if c=1\/c=3 then upI l s.Left (zaD u)else l) i) (itg l i)/\(¬i=s.Left->itg (if c=1\/c=3 then upI l s.Left (zaD u)else l) i=itg l i):=by
  split
  ·rename_i h;have h0:=T.lf h;have Z:s.Left<l.length:=by have:=hs.tl;have:=hs.ft;rcases hs.lf with U|U<;>omega
   refine⟨ziM (znF u) h0 hi Z,λhn=>?_⟩;rw[zbe h0 hi Z,j7 (by omega)]
  ·exact⟨zav _,λ_=>rfl⟩
 generalize(if c=1\/c=3 then upI l s.Left (zaD u)else l)=l1 at*
 have U:sameI (itg (if c=2\/c=3 then upI l1 s.Right (zaI u)else l1) i) (itg l1 i)/\(¬i=s.Right->itg (if c=2\/c=3 then upI l1 s.Right (zaI u)else l1) i=itg l1 i)/\(itg (if c=2\/c=3 then upI l1 s.Right (zaI u)else l1) i).After=(itg l1 i).After:=by
  split
  ·rename_i h;have h0:=T.rt h;have Z:s.Right<l1.length:=by rw[A,hl];rcases hs.rt with U|U<;>omega
   refine⟨ziM (znG u) h0 hi Z,λhn=>?_,?_⟩
   ·rw[zbe h0 hi Z,j7 (by omega)]
   ·rw[zbe h0 hi Z];split
    ·rename_i h;subst h;rfl
    ·rfl
  ·exact⟨zav _,λ_=>rfl,rfl⟩
 generalize(if c=2\/c=3 then upI l1 s.Right (zaI u)else l1)=l2 at*
 have N:sameI (itg (if c=4 then upI l2 (s.To-1) dblI else l2) i) (itg l2 i)/\(¬i=s.To-1->itg (if c=4 then upI l2 (s.To-1) dblI else l2) i=itg l2 i)/\(itg (if c=4 then upI l2 (s.To-1) dblI else l2) i).After=(itg l2 i).After:=by
  split
  ·rename_i h;have h0:=T.al h;have Z:s.To-1<l2.length:=by rw[B,hl];have:=hs.tl;omega
   have V:0<=s.To-1:=by have:=hs.f0;omega
   refine⟨ziM zp3 V hi Z,λhn=>?_,?_⟩
   ·rw[zbe V hi Z,j7 (by omega)]
   ·rw[zbe V hi Z];split
    ·rename_i h;subst h;rfl
    ·rfl
  ·exact⟨zav _,λ_=>rfl,rfl⟩
 refine⟨N.1.tr (U.1.tr h1.1),λa b d=>?_,λa=>?_⟩;all_goals simp_all
theorem ziN(q r:Int)(x:Bool)(L:List (Int×Bool)):mget q (mput r x L)=if r=q then some x else mget q L:=by
 exact zaq q r x L
structure StaOk(l:List Ite)(S:List Sgm)(M:List Int)(n:Nat)(st:List Ite×List (Int×Bool)):Prop where
 len:st.1.length=l.length
 same:∀i:Int,0<=i->sameI (itg st.1 i) (itg l i)
 rest:∀s,S[n]? =some s->∀i:Int,s.From<=i->itg st.1 i=itg l i/\mget i st.2=none
 left:∀s,S[n]? =some s->0<=s.Left->(itg st.1 s.Left).After=(itg l s.Left).After/\(mget s.Left st.2).getD false=(decide (0<n)&&(decide (M.getD (n-1) 0=2)||decide (M.getD (n-1) 0=3)))
def zlm{u:Tm}{k:Int}{S:List Sgm}{l:List Ite}{M:List Int}(V:SgsOk k l S):∀n,n<=S.length->okJ u k S l M n=true->StaOk l S M n (stK u S l M n)
 |0,_,_=>by
  refine⟨rfl,λ_ _=>zav _,λs hs i hi=>⟨rfl,rfl⟩,λs hs h0=>?_⟩;have:=V.st s hs;omega
 |n+1,hn,hk=>by
  have hk:(okJ u k S l M n&&decide (M.getD n 0∈alK u k S l M n))=true:=hk;simp only[jA,w4]at hk;have ih:=zlm V n (by omega) hk.1;rw[zmD];have hs:S[n]? =some S[n]:=lgg (by omega);have U:S.getD n default=S[n]:=by grind
  have Z:=V.all _ (j8 hs);unfold alK at hk;rw[U]at hk⊢;generalize S[n]=s at*
  generalize stK u S l M n=st at*
  have T:=zfY Z.ft hk.2;generalize hM:M.getD n 0=c at*
  have N:=λ(i:Int)(hi:0<=i)=>ztB (u:=u) Z ih.len T hi
  have J:s.Left<s.From:=by have:=Z.f0;rcases Z.lf with h|h<;>omega
  refine⟨by rw[zoA];exact ih.len,λi hi=>(N i hi).1.tr (ih.same i hi),λt ht i hi=>?_,λt ht h0=>?_⟩
  ·obtain⟨n1,n2,n3⟩:=V.nx n s t hs ht;have H:0<=i:=by have:=(V.all t (j8 ht)).f0;omega
   have hf:=Z.ft;have hr:¬i=s.Right:=by rcases Z.rt with h|h<;>omega
   have:=ih.rest s hs i (by omega)
   grind[chL,ziN]
  ·obtain⟨n1,n2,n3⟩:=V.nx n s t hs ht;have hr:0<=s.Right:=by omega
   have G:s.Right=s.To:=by rcases Z.rt with h|h<;>omega
   have hf:=Z.ft;have E:=ih.rest s hs t.Left (by omega)
   grind[chL,ziN]
end
section
def bdX(k:Int)(l:List Ite):List (List AV):=(bds k l).map λb=>[bdA b]
def zln{k:Int}{l:List Ite}{j:Nat}{zs:List AV}(h:(bdX k l)[j]? =some zs):∃b,(bds k l)[j]? =some b/\zs=[bdA b]:=by
 rw[bdX,jN]at h;cases hk:(bds k l)[j]? with
 |none=>simp[hk]at h
 |some b=>simp[hk]at h;exact⟨b,rfl,h.symm⟩
def zoE(k:Int)(l:List Ite):(bdX k l).length=(bdK k l l.length).length+1:=by unfold bdX;rw[jS,zfd]
def zoF{k:Int}{l:List Ite}(n:Nat):∀d,∃r,bdK k l (n+d)=bdK k l n++r
 |0=>⟨[],by simp⟩
 |d+1=>by
  obtain⟨r,hr⟩:=zoF (k:=k) (l:=l) n d;cases hx:l[n+d]? with
  |none=>
   have e:bdK k l (n+d+1)=bdK k l (n+d):=by
    conv=>lhs;unfold bdK
    rw[hx]
   exact⟨r,by rw[show n+(d+1)=n+d+1 from rfl,e];exact hr⟩
  |some x=>exact⟨r++((if isH k x then[⟨(n+d:Nat),(n+d:Nat)+1,false⟩]else[])++if isC k x then[⟨-1,(n+d:Nat)+1,false⟩]else[]),by
   show bdK k l ((n+d)+1)=_;rw[zdy hx,hr];simp only[uB]⟩
def znH{k:Int}{l:List Ite}{n:Nat}{p:List Bd}{b:Bd}{q:List Bd}(hn:n+1<=l.length)(h:bdK k l (n+1)=p++b::q):(bds k l)[p.length]? =some b:=by
 obtain⟨r,hr⟩:=zoF (k:=k) (l:=l) (n+1) (l.length-(n+1));rw[show n+1+(l.length-(n+1))=l.length by omega,h]at hr;unfold bds;rw[hr];simp
def ziO{k:Int}{l:List Ite}{i:Nat}{b:Bd}(h:(bds k l)[i]? =some b):(bdX k l)[i]? =some [bdA b]:=by
 unfold bdX;rw[jN,h];rfl
def zqV{k:Int}{l:List Ite}{n:Nat}{x:Ite}(hx:l[n]? =some x)(h:¬isH k x):
 (bdK k l (n+1)).length=(bdK k l n).length+(if isC k x then 1 else 0)/\(isC k x->(bdX k l)[(bdK k l n).length]? =some [bdA ⟨-1,(n:Int)+1,false⟩]):=by
 have hs:=zdy (k:=k) hx;rw[j7 h,wO]at hs;have Z:=(j5.1 hx).1;refine⟨by rw[hs,jC];split<;>rfl,λV=>ziO (znH (q:=[]) (n:=n) (by omega) (by rw[hs,j6 V]))⟩
def zAr{k:Int}{l:List Ite}{n:Nat}{x:Ite}(hx:l[n]? =some x)(h:isH k x):
 (bdX k l)[(bdK k l n).length]? =some [bdA ⟨(n:Int),(n:Int)+1,false⟩]/\(bdK k l (n+1)).length=(bdK k l n).length+1+(if isC k x then 1 else 0)/\(isC k x->(bdX k l)[(bdK k l n).length+1]? =some [bdA ⟨-1,(n:Int)+1,false⟩]):=by
 have hs:=zdy (k:=k) hx;rw[j6 h]at hs;have Z:=(j5.1 hx).1;refine⟨ziO (znH (n:=n) (by omega) (by rw[hs,uB];rfl)),by rw[hs,jC,jC];split<;>rfl,λV=>?_⟩;have:=ziO (znH (k:=k) (l:=l) (p:=bdK k l n++[⟨(n:Int),(n:Int)+1,false⟩]) (q:=[]) (n:=n) (b:=⟨-1,(n:Int)+1,false⟩) (by omega) (by rw[hs,j6 V]));rw[jC]at this;exact this
def zEr(k:Int)(l:List Ite):(bdX k l)[0]? =some [bdA ⟨-1,0,false⟩]:=ziO (zmG k l)
def zxI(k:Int)(l:List Ite):(bdX k l)[(bdK k l l.length).length]? =some [bdA ⟨-1,(l.length:Int),true⟩]:=ziO (by unfold bds;simp)
attribute [local irreducible] bdK bds bdX
def zes(k:Int)(l:List Ite)(hl:l.length<=4000000):It prog 304 [.ept (λ_:Unit=>[.sl itE l]) () 0,.ept (λ_:Unit=>[iv k]) () 0] (bdX k l):=by
 have u2:(bdK k l 0).length=1:=by unfold bdK;rfl
 have u1:=zfb k l l.length;refine It.intro (ts:=λlY=>[(0,.yv lY),(1,.ept (λ_:Unit=>[.sl itE l]) () 0),(2,.ept (λ_:Unit=>[iv k]) () 0)]) (n:=58) (by kernel_rfl) func304 rfl ntmps304 rfl (λ_=>rfl) (by simp) (λg w d ds Y lY hY=>?_);apply yh;apply ye;iterate 2 refine ya ?_
 refine Ex.yield hY rfl rfl rfl (bC _) rfl rfl (zEr k l) rfl (λb=>?_);refine gd ?_ ?_<;>intro x1
 ·subst x1;refine kQ ?_;refine⟨.inr rfl,_,false,rfl,λG=>by simp at G⟩
 subst x1;apply yk;apply yh;apply ye;refine yC ?_;apply kP;refine zm (λn=>[(0,.yv lY),(1,.ept (λ_:Unit=>[.sl itE l]) () 0),(2,.ept (λ_:Unit=>[iv k]) () 0),(10,itsA l),(11,iv l.length),(12,iv (n:Int))]) (λn=>[(1000000,.yld (bdK k l n).length true)]) l.length (λn hk=>?_) (h0:=yd);refine gd ?_ ?_<;>intro k9
 ·have v9:=@getX _ l n (by omega);obtain⟨x,hx,k8⟩:=v9;apply yk;apply yh;apply kP;apply ye;iterate 3 refine ya ?_
  refine za ?_;refine ya ?_;refine kV ?_;apply kW;iterate 2 apply yh
  have v8:x.Color=true\/(x.Color=false/\¬x.Value<=k)\/(x.Color=false/\x.Value<=k):=by cases x.Color<;>simp;omega
  rcases v8 with E|⟨E,hq⟩|⟨E,hq⟩
  ·have U:((!x.Color)==true)=false:=by rw[E];rfl
   have x2:¬isH k x:=λh=>by rw[h.1]at E;cases E
   have hZ:=zqV (k:=k) hx x2;obtain⟨J,hC⟩:=hZ;apply yf;(iterate 4 refine ya ?_);(iterate 4 refine zbQ ?_);(iterate 2 refine ya ?_);(iterate 7 refine zbQ ?_);refine gd ?_ ?_<;>intro v5
   ·exact absurd v5 (by decide)
   apply yk;apply yh;have N:¬0<x.Cut\/(0<x.Cut/\¬x.Cut<=k)\/(0<x.Cut/\x.Cut<=k):=by omega
   rcases N with V|⟨V,Z⟩|⟨V,Z⟩
   ·have U:(decide (0<x.Cut)==true)=false:=by rw[jH V];rfl
    rw[j7 (λh=>V h.1),vN]at J;apply yf;(iterate 4 refine ya ?_);(iterate 4 refine zbQ ?_);(iterate 2 refine ya ?_);(iterate 6 refine zbQ ?_);refine gd ?_ ?_<;>intro v4
    ·exact absurd v4 (by decide)
    refine gq ?_;refine yu (n+1)
   ·have U:(decide (0<x.Cut)==true)=true:=by rw[jJ V];rfl
    have T:(decide (x.Cut<=k)==true)=false:=by rw[jH Z];rfl
    rw[j7 (λh=>Z h.2),vN]at J;apply yf;(iterate 4 refine ya ?_);(iterate 4 refine z8 ?_);(iterate 2 refine ya ?_);(iterate 6 refine zbQ ?_);refine gd ?_ ?_<;>intro v3
    ·exact absurd v3 (by decide)
    refine gq ?_;refine yu (n+1)
   ·have U:(decide (0<x.Cut)==true)=true:=by rw[jJ V];rfl
    have T:(decide (x.Cut<=k)==true)=true:=by rw[jJ Z];rfl
    have H:=hC ⟨V,Z⟩;rw[j6 ⟨V,Z⟩]at J;apply yf;(iterate 4 refine ya ?_);(iterate 4 refine z8 ?_);(iterate 2 refine ya ?_);(iterate 4 refine z8 ?_);refine zb6 hY rfl rfl rfl (λ_=>⟨_,_,rfl,rfl,rfl,bC _,rfl,rfl,H,λb=>?_⟩) (λh=>absurd (h.symm.trans T) (by decide));refine z8 ?_;refine gd ?_ ?_<;>intro x0
    ·subst x0;refine kQ ?_;refine⟨.inr rfl,_,false,rfl,λG=>by simp at G⟩
    subst x0;refine gq ?_;refine yu (n+1)
  ·have U:((!x.Color)==true)=true:=by rw[E];rfl
   have T:(decide (x.Value<=k)==true)=false:=by rw[jH hq];rfl
   have x2:¬isH k x:=λh=>hq h.2
   have hZ:=zqV (k:=k) hx x2;obtain⟨J,hC⟩:=hZ;apply yf;(iterate 4 refine ya ?_);(iterate 4 refine z8 ?_);(iterate 2 refine ya ?_);(iterate 7 refine zbQ ?_);refine gd ?_ ?_<;>intro v2
   ·exact absurd v2 (by decide)
   apply yk;apply yh;have N:¬0<x.Cut\/(0<x.Cut/\¬x.Cut<=k)\/(0<x.Cut/\x.Cut<=k):=by omega
   rcases N with V|⟨V,Z⟩|⟨V,Z⟩
   ·have U:(decide (0<x.Cut)==true)=false:=by rw[jH V];rfl
    rw[j7 (λh=>V h.1),vN]at J;apply yf;(iterate 4 refine ya ?_);(iterate 4 refine zbQ ?_);(iterate 2 refine ya ?_);(iterate 6 refine zbQ ?_);refine gd ?_ ?_<;>intro v1
    ·exact absurd v1 (by decide)
    refine gq ?_;refine yu (n+1)
   ·have U:(decide (0<x.Cut)==true)=true:=by rw[jJ V];rfl
    have T:(decide (x.Cut<=k)==true)=false:=by rw[jH Z];rfl
    rw[j7 (λh=>Z h.2),vN]at J;apply yf;(iterate 4 refine ya ?_);(iterate 4 refine z8 ?_);(iterate 2 refine ya ?_);(iterate 6 refine zbQ ?_);refine gd ?_ ?_<;>intro v0
    ·exact absurd v0 (by decide)
    refine gq ?_;refine yu (n+1)
   ·have U:(decide (0<x.Cut)==true)=true:=by rw[jJ V];rfl
    have T:(decide (x.Cut<=k)==true)=true:=by rw[jJ Z];rfl
    have H:=hC ⟨V,Z⟩;rw[j6 ⟨V,Z⟩]at J;apply yf;(iterate 4 refine ya ?_);(iterate 4 refine z8 ?_);(iterate 2 refine ya ?_);(iterate 4 refine z8 ?_);refine zb6 hY rfl rfl rfl (λ_=>⟨_,_,rfl,rfl,rfl,bC _,rfl,rfl,H,λb=>?_⟩) (λh=>absurd (h.symm.trans T) (by decide));refine z8 ?_;refine gd ?_ ?_<;>intro xT
    ·subst xT;refine kQ ?_;refine⟨.inr rfl,_,false,rfl,λG=>by simp at G⟩
    subst xT;refine gq ?_;refine yu (n+1)
  ·have U:((!x.Color)==true)=true:=by rw[E];rfl
   have T:(decide (x.Value<=k)==true)=true:=by rw[jJ hq];rfl
   have hZ:=zAr (k:=k) hx ⟨E,hq⟩;obtain⟨u4,J,hC⟩:=hZ;apply yf;(iterate 4 refine ya ?_);(iterate 4 refine z8 ?_);(iterate 2 refine ya ?_);(iterate 5 refine z8 ?_);refine zb6 hY rfl rfl rfl (λ_=>⟨_,_,rfl,rfl,rfl,bC _,rfl,rfl,u4,λb=>?_⟩) (λh=>absurd (h.symm.trans T) (by decide));refine z8 ?_;refine gd ?_ ?_<;>intro x4
   ·subst x4;refine kQ ?_;refine⟨.inr rfl,_,false,rfl,λG=>by simp at G⟩
   subst x4;apply yk;apply yh;have N:¬0<x.Cut\/(0<x.Cut/\¬x.Cut<=k)\/(0<x.Cut/\x.Cut<=k):=by omega
   rcases N with V|⟨V,Z⟩|⟨V,Z⟩
   ·have U:(decide (0<x.Cut)==true)=false:=by rw[jH V];rfl
    rw[j7 (λh=>V h.1),vN]at J;apply yf;(iterate 4 refine ya ?_);(iterate 4 refine zbQ ?_);(iterate 2 refine ya ?_);(iterate 6 refine zbQ ?_);refine gd ?_ ?_<;>intro w9
    ·exact absurd w9 (by decide)
    refine gq ?_;refine yu (n+1)
   ·have U:(decide (0<x.Cut)==true)=true:=by rw[jJ V];rfl
    have T:(decide (x.Cut<=k)==true)=false:=by rw[jH Z];rfl
    rw[j7 (λh=>Z h.2),vN]at J;apply yf;(iterate 4 refine ya ?_);(iterate 4 refine z8 ?_);(iterate 2 refine ya ?_);(iterate 6 refine zbQ ?_);refine gd ?_ ?_<;>intro w2
    ·exact absurd w2 (by decide)
    refine gq ?_;refine yu (n+1)
   ·have U:(decide (0<x.Cut)==true)=true:=by rw[jJ V];rfl
    have T:(decide (x.Cut<=k)==true)=true:=by rw[jJ Z];rfl
    have H:=hC ⟨V,Z⟩;rw[j6 ⟨V,Z⟩]at J;apply yf;(iterate 4 refine ya ?_);(iterate 4 refine z8 ?_);(iterate 2 refine ya ?_);(iterate 4 refine z8 ?_);refine zb6 hY rfl rfl rfl (λ_=>⟨_,_,rfl,rfl,rfl,bC _,rfl,rfl,H,λb=>?_⟩) (λh=>absurd (h.symm.trans T) (by decide));refine z8 ?_;refine gd ?_ ?_<;>intro x3
    ·subst x3;refine kQ ?_;refine⟨.inr rfl,_,false,rfl,λG=>by simp at G⟩
    subst x3;refine gq ?_;refine yu (n+1)
 ·have u3:n=l.length:=by omega
  subst u3;apply bA;apply yf;iterate 4 refine ya ?_
  refine Ex.yield hY rfl rfl rfl (bC _) rfl rfl (zxI k l) rfl (λb=>?_);apply kW;refine⟨.inl rfl,_,b,rfl,λh=>by rw[zoE,h];rfl⟩
def zfZ(k:Int)(l:List Ite):Fn prog 280 [iv k,itsA l] (.fn 304 [.ept (λ_:Unit=>[.sl itE l]) () 0,.ept (λ_:Unit=>[iv k]) () 0]):=by
 refine kR func280 ntmps280 (λg w d=>?_);apply ye;iterate 2 refine ze0 ?_
 refine ya ?_;apply yE;refine yQ ?_;refine kQ ?_;refine kM ((yY (k:=2) rfl rfl).trans (yY (k:=3) rfl rfl)) ?_;refine gq ?_;all_goals exact zR
end
section
def fsB:Nat->Bool
 |0=>true
 |_+1=>false
def lsB(k:Int)(l:List Ite):Nat->Bd
 |0=>⟨0,0,false⟩
 |j+1=>(bds k l).getD j default
def ziP{k:Int}{l:List Ite}{j:Nat}{b:Bd}(h:(bds k l)[j]? =some b):b=lsB k l (j+1):=by
 show b=(bds k l).getD j default;rw[jD,h];rfl
def zqW{k:Int}{l:List Ite}{j:Nat}(h:j<(bds k l).length):(lsB k l (j+1)).item<l.length:=by
 have Z:(bds k l)[j]? =some (bds k l)[j]:=lgg h;rw[←ziP Z];have V:=(znD k l).1 _ (j8 Z);have:=V.hi;rcases V.it with U|⟨U,T,N⟩<;>omega
def ztC{k:Int}{l:List Ite}{j:Nat}(h:j+1<(bds k l).length):sgs0 l ((bds k l).take (j+1))++[sg0 l (lsB k l (j+1)) (lsB k l (j+2))]=sgs0 l ((bds k l).take (j+2)):=by
 have Z:(bds k l)[j]? =some (bds k l)[j]:=lgg (by omega);have V:(bds k l)[j+1]? =some (bds k l)[j+1]:=lgg h
 have e2:(bds k l).take (j+2)=((bds k l).take j++[(bds k l)[j]])++[(bds k l)[j+1]]:=by
  rw[jG,jG,Z,V];rfl
 have e1:(bds k l).take (j+1)=(bds k l).take j++[(bds k l)[j]]:=by rw[jG,Z];rfl
 rw[e2,e1,zkm,←ziP Z,←ziP V]
def zxJ{k:Int}{l:List Ite}:sgs0 l ((bds k l).take 0)=sgs0 l ((bds k l).take 1):=by
 cases bds k l with
 |nil=>rfl
 |cons b r=>rfl
def zqX(k:Int)(l:List Ite)(j:Nat):(sgs0 l ((bds k l).take j)).length<=2*l.length+2:=by
 have h:=zfb k l l.length;have Z:=zfd k l;rw[zer,jO];omega
def zxK{k:Int}{l:List Ite}{j:Nat}(h:j<(bds k l).length):((lsB k l (j+1)).fin=true->j+1=(bds k l).length)/\((lsB k l (j+1)).fin=false->j+1<(bds k l).length):=by
 have Z:(bds k l)[j]? =some (bds k l)[j]:=lgg h;rw[←ziP Z];have:=ztz Z;rw[this];constructor
 ·intro h;simpa using h
 ·intro h;have:¬j+1=(bds k l).length:=by simpa using h
  omega
def zqY{k:Int}{l:List Ite}{j:Nat}(hf:fsB j=false)(h:j<(bds k l).length):sgs0 l ((bds k l).take j)++[sg0 l (lsB k l j) (lsB k l (j+1))]=sgs0 l ((bds k l).take (j+1)):=by
 cases j with
 |zero=>cases hf
 |succ i=>exact ztC h
def ztD{k:Int}{l:List Ite}{j:Nat}(hf:fsB j=true):sgs0 l ((bds k l).take j)=sgs0 l ((bds k l).take (j+1)):=by
 cases j with
 |zero=>exact zxJ
 |succ i=>cases hf
def ztE{k:Int}{l:List Ite}{j:Nat}(hf:fsB j=false)(h:j<(bds k l).length):(lsB k l j).item<l.length:=by
 cases j with
 |zero=>cases hf
 |succ i=>exact zqW (by omega)
attribute [local irreducible] bdK bds bdX sgs0 hdI
def zee(q:List Ite)(k:Int)(hl:q.length<=1000000):FnO prog 255 [.agg [itsA q],iv k] [] [] (.own 39) [(39,.row smE (sgs0 q (bds k q)) 260 7)]:=by
 have w9:fsB 0=true:=by unfold fsB;rfl
 have w2:lsB k q 0=⟨0,0,false⟩:=by unfold lsB;rfl
 have v9:[]=sgs0 q ((bds k q).take 0):=by rw[vY];unfold sgs0;rfl
 have v8:sgs0 q ((bds k q).take (bdX k q).length)=sgs0 q (bds k q):=by rw[zoE,←zfd,jK]
 refine bP (ts:=[(0,.agg [itsA q]),(1,iv k)]) (rv:=[.tmp 4]) (n:=43) (cs:=[]) (by kernel_rfl) func255 rfl ntmps255 rfl rfl (by simp) rfl rfl rfl rfl (λg w d vh=>?_);apply ye;refine zz ?_;refine ya ?_;apply yE;refine za ?_;apply kW;apply yh;refine kT (zbo smE 260 7 5 39 254 rfl rfl) ?_;refine gc (zfZ k q) ?_;refine X.range (sl:=[2,5,6,7]) (λj=>([.ptr 2 0 0 0,.ptr 5 0 0 0,.ptr 6 0 0 0,.ptr 7 0 0 0],[(1000001,.hold vh []),(2,.box [itsA q] 282),(5,.box [.own 39] 254),(39,.row smE (sgs0 q ((bds k q).take j)) 260 7),(6,.box (bdE (lsB k q j)) 338),(7,.box [.bool (fsB j)] 4)])) (λj=>True) 900001 900002 rfl rfl (by decide) (λj zs J=>by obtain⟨i,_,rfl⟩:=zln J;rfl) (zes k q (by omega)) trivial rfl rfl (by decide) (wK _) (by simp) (λj zs J=>by obtain⟨i,_,rfl⟩:=zln J;rfl) (λ_=>rfl) rfl rfl (λl o us=>yd) (trivial) (λj zs J hJ l ready busy rb vs g w hb v5=>?_) (λhJ=>?_)
 ·have xT:=zln J;obtain⟨b,H,rfl⟩:=xT;have x4:=ziP H;subst x4;have T:j<(bds k q).length:=(j5.1 H).1;have v4:=zqX k q j;have V:=zxK T;have v3:fsB (j+1)=false:=by unfold fsB;rfl
  apply yf;refine za ?_;refine kV ?_;apply kW;refine⟨rfl,rfl,?_⟩;refine gd ?_ ?_<;>intro N
  ·have G:=ztE N T;have E:=zqW (k:=k) (l:=q) (j:=j) T;have Z:=zqY N T;unfold sg0 bdF at Z;refine gd ?_ ?_<;>intro x3
   ·rw[j6 x3]at Z;refine gq ?_;refine yW [24,25,26,27,28,29,30,31,32,33,34,35,36,37] [0,0,2,0,0,0,48,0,0,496,0,1024,4094,8190,16383,32767] mo ?_;(iterate 6 refine yb ?_);refine yO (zaK q (lsB k q j) G) ?_;(iterate 2 refine yb ?_);refine yO (zaK q (lsB k q (j+1)) E) ?_;(iterate 3 refine yb ?_);refine ChM.step rfl rfl rfl (zaj (k:=37) (enc:=smE) (l:=[⟨(lsB k q j).next,(lsB k q (j+1)).item,hdI q (lsB k q j),hdI q (lsB k q (j+1)),(lsB k q (j+1)).fin,⟨0,0⟩⟩]) zs0 zsX zpR (by decide) rfl rfl rfl rfl (by decide) (by decide) (λ_=>rfl) rfl) rfl ?_;refine yI ?_;refine gd ?_ ?_<;>intro x2
    ·have U:(bds k q).take (j+1)=bds k q:=by rw[V.1 x2,jK]
     rw[U]at Z;apply bA;refine⟨[.ptr 2 0 0 0,.ptr 5 0 0 0,.ptr 6 0 0 0,.ptr 7 0 0 0],[(1000001,.hold vh []),(5,.box [.own 39] 254),(39,.row smE (sgs0 q (bds k q)) 260 7)],yd,?_⟩;apply ye;refine yQ ?_;refine kQ ?_;refine zpx.mk (ts:=[(4,.own 39)]) (.inr rfl) (yd) (.one (.tmp rfl (kO rfl)))
    apply yk;refine⟨[.ptr 2 0 0 0,.ptr 5 0 0 0,.ptr 6 0 0 0,.ptr 7 0 0 0],[(1000001,.hold vh []),(2,.box [itsA q] 282),(5,.box [.own 39] 254),(39,.row smE (sgs0 q ((bds k q).take (j+1))) 260 7),(6,.box (bdE (lsB k q (j+1))) 338),(7,.box [.bool (fsB (j+1))] 4)],yd,rfl,trivial⟩
   ·rw[j7 (by omega)]at Z;apply yk;refine yW [24,25,26,27,28,29,30,31,32,33,34,35,36,37] [0,0,2,0,0,0,48,0,0,496,0,1024,4094,8190,16383,32767] mo ?_;(iterate 6 refine yb ?_);refine yO (zaK q (lsB k q j) G) ?_;(iterate 2 refine yb ?_);refine yO (zaK q (lsB k q (j+1)) E) ?_;(iterate 3 refine yb ?_);refine ChM.step rfl rfl rfl (zaj (k:=37) (enc:=smE) (l:=[⟨(lsB k q j).next,(lsB k q (j+1)).next,hdI q (lsB k q j),hdI q (lsB k q (j+1)),(lsB k q (j+1)).fin,⟨0,0⟩⟩]) zs0 zsX zpR (by decide) rfl rfl rfl rfl (by decide) (by decide) (λ_=>rfl) rfl) rfl ?_;refine yI ?_;refine gd ?_ ?_<;>intro x1
    ·have U:(bds k q).take (j+1)=bds k q:=by rw[V.1 x1,jK]
     rw[U]at Z;apply bA;refine⟨[.ptr 2 0 0 0,.ptr 5 0 0 0,.ptr 6 0 0 0,.ptr 7 0 0 0],[(1000001,.hold vh []),(5,.box [.own 39] 254),(39,.row smE (sgs0 q (bds k q)) 260 7)],yd,?_⟩;apply ye;refine yQ ?_;refine kQ ?_;refine zpx.mk (ts:=[(4,.own 39)]) (.inr rfl) (yd) (.one (.tmp rfl (kO rfl)))
    apply yk;refine⟨[.ptr 2 0 0 0,.ptr 5 0 0 0,.ptr 6 0 0 0,.ptr 7 0 0 0],[(1000001,.hold vh []),(2,.box [itsA q] 282),(5,.box [.own 39] 254),(39,.row smE (sgs0 q ((bds k q).take (j+1))) 260 7),(6,.box (bdE (lsB k q (j+1))) 338),(7,.box [.bool (fsB (j+1))] 4)],yd,rfl,trivial⟩
  ·have Z:=ztD (k:=k) (l:=q) N;refine gd ?_ ?_<;>intro x0
   ·have U:(bds k q).take (j+1)=bds k q:=by rw[V.1 x0,jK]
    rw[U]at Z;apply bA;refine⟨[.ptr 2 0 0 0,.ptr 5 0 0 0,.ptr 6 0 0 0,.ptr 7 0 0 0],[(1000001,.hold vh []),(5,.box [.own 39] 254),(39,.row smE (sgs0 q (bds k q)) 260 7)],yd,?_⟩;apply ye;refine yQ ?_;refine kQ ?_;refine zpx.mk (ts:=[(4,.own 39)]) (.inr rfl) (yd) (.one (.tmp rfl (kO rfl)))
   apply yk;refine⟨[.ptr 2 0 0 0,.ptr 5 0 0 0,.ptr 6 0 0 0,.ptr 7 0 0 0],[(1000001,.hold vh []),(2,.box [itsA q] 282),(5,.box [.own 39] 254),(39,.row smE (sgs0 q ((bds k q).take (j+1))) 260 7),(6,.box (bdE (lsB k q (j+1))) 338),(7,.box [.bool (fsB (j+1))] 4)],yd,rfl,trivial⟩
 apply ye;refine yQ ?_;refine kQ ?_;refine zpx.mk (ts:=[(4,.own 39)]) (.inr rfl) (yd) (.one (.tmp rfl (kO rfl)))
end
end Go.Rse
