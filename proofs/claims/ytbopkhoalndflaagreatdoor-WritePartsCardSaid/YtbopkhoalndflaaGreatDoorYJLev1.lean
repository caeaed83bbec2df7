/-
  Plain.
-/
import Derived.Test.YtbopkhoalndflaaGreatDoorYJLev0
set_option linter.all false
namespace Go.Rse
open Go Go.Proofs Go.Proofs.Tryz
section
structure BdOk(k:Int)(l:List Ite)(n:Nat)(b:Bd):Prop where
 it:b.item=-1\/(0<=b.item/\b.next=b.item+1/\isH k (itg l b.item))
 lo:0<=b.next
 hi:b.next<=n
def zvD{l:List Ite}{n:Nat}{x:Ite}(h:l[n]? =some x):itg l (n:Int)=x:=by
 simp_all
theorem zmN(k:Int)(l:List Ite):∀n,n<=l.length->(∀b∈bdK k l n,BdOk k l n b/\b.fin=false)/\(bdK k l n).Pairwise (λb c=>b.next<=bdF c)
 |0,_=>by
  grind[bdK,BdOk]
 |n+1,Q=>by
  obtain⟨U,T⟩:=zmN k l n (by omega);have hx:l[n]? =some l[n]:=lgg (by omega);rw[zdv hx];have N:=zvD hx;generalize l[n]=x at*
  have a1:∀b∈bdK k l n++(if isH k x then[(⟨n,n+1,false⟩:Bd)]else[]),BdOk k l (n+1) b/\b.fin=false:=by
   grind[BdOk]
  have a2:(bdK k l n++(if isH k x then[(⟨n,n+1,false⟩:Bd)]else[])).Pairwise (λb c=>b.next<=bdF c):=by
   refine vQ.2 ⟨T,?_,?_⟩
   ·split<;>simp
   ·intro b V c Z;split at Z
    ·simp at Z;subst Z;have:=(U b V).1.hi
     grind
    ·simp at Z
  constructor
  ·grind[BdOk]
  ·refine vQ.2 ⟨a2,?_,?_⟩
   ·split<;>simp
   ·intro b V c Z;split at Z
    ·simp at Z;subst Z;have:=(a1 b V).1.hi
     grind
    ·simp at Z
def zmO(k:Int)(l:List Ite):(∀b∈bds k l,BdOk k l l.length b)/\(bds k l).Pairwise (λb c=>b.next<=bdF c):=by
 grind[zmN,bds,BdOk]
theorem zlO(k:Int)(l:List Ite):∀n,(bdK k l n)[0]? =some ⟨-1,0,false⟩
 |0=>rfl
 |n+1=>by
  have h:=zlO k l n
  grind[bdK]
def ze5(k:Int)(l:List Ite):(bds k l).length=(bdK k l l.length).length+1:=by unfold bds;simp
def zlP(k:Int)(l:List Ite):(bds k l)[0]? =some ⟨-1,0,false⟩:=by
 grind[bds,zlO]
def zr3{k:Int}{l:List Ite}{i:Nat}{b:Bd}(h:(bds k l)[i]? =some b):b.fin=decide (i+1=(bds k l).length):=by
 grind[bds,zmN]
structure SgOk(k:Int)(l:List Ite)(s:Sgm):Prop where
 f0:0<=s.From
 ft:s.From<=s.To
 tl:s.To<=l.length
 lf:s.Left=-1\/(0<=s.Left/\s.Left+1=s.From/\(itg l s.Left).Value<=k/\(itg l s.Left).Color=false/\(itg l s.Left).Fixed=false)
 rt:s.Right=-1\/(s.Right=s.To/\s.To<l.length/\(itg l s.Right).Value<=k/\(itg l s.Right).Color=false/\(itg l s.Right).Fixed=false)
structure SgsOk(k:Int)(l:List Ite)(S:List Sgm):Prop where
 all:∀s∈S,SgOk k l s
 nx:∀n s t,S[n]? =some s->S[n+1]? =some t->t.Left=s.Right/\s.To<=t.From/\(0<=s.Right->t.From=s.To+1)
 st:∀s,S[0]? =some s->s.Left=-1
def zmP{k:Int}{l:List Ite}{n:Nat}{b:Bd}(h:BdOk k l n b):hdI l b=-1\/(0<=b.item/\hdI l b=b.item/\b.next=b.item+1/\(itg l b.item).Value<=k/\(itg l b.item).Color=false/\(itg l b.item).Fixed=false):=by
 unfold hdI;split
 ·exact .inl rfl
 ·rename_i Z;have U:¬b.item<0:=λh=>Z (.inl h)
  have T:(itg l b.item).Fixed=false:=by
   cases hf:(itg l b.item).Fixed with
   |false=>rfl
   |true=>exact absurd (.inr hf) Z
  rcases h.it with V|⟨V,Q,N⟩;all_goals simp_all
theorem zvE{k:Int}{l:List Ite}{b c:Bd}(T:BdOk k l l.length b)(V:BdOk k l l.length c)(h:b.next<=bdF c):SgOk k l (sg0 l b c):=by
 have J:bdF c<=c.next:=by
  unfold bdF;rcases V.it with Z|⟨Z,U,Q⟩;all_goals omega
 refine⟨T.lo,h,by have:=V.hi;grind[sg0],?_,?_⟩
 ·rcases zmP T with Z|⟨Z,U,Q,N⟩;all_goals grind[sg0]
 ·rcases zmP V with Z|⟨Z,U,Q,N⟩
  ·exact .inl Z
  ·refine .inr ?_;have I:bdF c=c.item:=by simp_all
   show hdI l c=bdF c/\bdF c<l.length/\(itg l (hdI l c)).Value<=k/\(itg l (hdI l c)).Color=false/\(itg l (hdI l c)).Fixed=false;rw[U,I];exact⟨rfl,by have:=V.hi;omega,N⟩
theorem zhV{l:List Ite}{B:List Bd}{i:Nat}{s:Sgm}(h:(sgs0 l B)[i]? =some s):∃b c,B[i]? =some b/\B[i+1]? =some c/\s=sg0 l b c:=by
 have hi:=(j1.1 h).1;rw[zes]at hi;have Z:B[i]? =some B[i]:=lgg (by omega)
 grind[zij]
theorem zr4{B:List Bd}(h:B.Pairwise (λb c=>b.next<=bdF c)){i:Nat}{b c:Bd}(Z:B[i]? =some b)(V:B[i+1]? =some c):b.next<=bdF c:=by
 grind[List.pairwise_iff_getElem]
def zkz(k:Int)(l:List Ite):SgsOk k l (sgs0 l (bds k l)):=by
 obtain⟨Q,I⟩:=zmO k l;refine⟨?_,?_,?_⟩
 ·grind[List.getElem?_of_mem,zhV,zvE,zr4]
 ·intro n s t hs ht;obtain⟨b,c,V,U,rfl⟩:=zhV hs;obtain⟨c',d,Z,H,rfl⟩:=zhV ht;rw[U]at Z;cases Z;have ho:=Q c (j6 U);refine⟨rfl,?_,?_⟩
  ·show bdF c<=c.next;unfold bdF;rcases ho.it with T|⟨T,N,J⟩;all_goals omega
  ·intro h;have h:0<=hdI l c:=h;show c.next=bdF c+1;rcases zmP ho with T|⟨T,N,J,G⟩;all_goals simp_all
 ·intro s hs;obtain⟨b,c,V,U,rfl⟩:=zhV hs;rw[zlP]at V;cases V;rfl
def SgOk.cnt{k:Int}{l:List Ite}{s:Sgm}(h:SgOk k l s)(t:Tm):SgOk k l {s with Count:=t}:=⟨h.f0,h.ft,h.tl,h.lf,h.rt⟩
def zet{m:Mn}{k:Int}{l:List Ite}(h:segE m k l=0):SgsOk k l (segV m k l):=by
 have h0:=zkz k l;unfold segV;rw[j3 h];refine⟨?_,?_,?_⟩
 ·intro s hs;obtain⟨t,ht,rfl⟩:=jW.1 hs;exact(h0.all t ht).cnt _
 ·intro n s t hs ht;rw[jO]at hs ht;obtain⟨s',Z,rfl⟩:=xE.1 hs;obtain⟨t',V,rfl⟩:=xE.1 ht;exact h0.nx n s' t' Z V
 ·intro s hs;rw[jO]at hs;obtain⟨s',Z,rfl⟩:=xE.1 hs;exact h0.st s' Z
def zdx{m:Mn}{k:Int}{l:List Ite}(h:segE m k l=0):unE m k=0/\ckIE l=0/\segX (unT m k) l (sgs0 l (bds k l))=0:=by
 grind[segE]
def zxB{u:Tm}{l:List Ite}{s:Sgm}(h:segR u l s=0):cnE u l s=0/\(s.Free=true\/(cnV u l s).D=1):=by
 grind[segR]
def zgp{m:Mn}{k:Int}{l:List Ite}(h:segE m k l=0):∀s∈segV m k l,s.Free=true\/s.Count.D=1:=by
 unfold segV;rw[j3 h];intro s hs;obtain⟨t,ht,rfl⟩:=jW.1 hs;exact(zxB (zny (zdx h).2.2 t ht)).2
def sameI(x y:Ite):Prop:=x.Sign=y.Sign/\x.Value=y.Value/\x.Rest=y.Rest/\x.Color=y.Color/\x.Fixed=y.Fixed/\x.Cut=y.Cut
theorem zaI(x:Ite):sameI x x:=⟨rfl,rfl,rfl,rfl,rfl,rfl⟩
def sameI.tr{x y z:Ite}(h:sameI x y)(g:sameI y z):sameI x z:=⟨h.1.trans g.1,h.2.1.trans g.2.1,h.2.2.1.trans g.2.2.1,h.2.2.2.1.trans g.2.2.2.1,h.2.2.2.2.1.trans g.2.2.2.2.1,h.2.2.2.2.2.trans g.2.2.2.2.2⟩
theorem ze6{l:List Ite}{i j:Int}{f:Ite->Ite}(hi:0<=i)(Z:0<=j)(hl:i<l.length):itg (upI l i f) j=if i=j then f (itg l i)else itg l j:=by
 grind[upI]
def zik{l:List Ite}{i j:Int}{f:Ite->Ite}(hf:∀x,sameI (f x) x)(hi:0<=i)(Z:0<=j)(hl:i<l.length):sameI (itg (upI l i f) j) (itg l j):=by
 grind[ze6,zaI]
def zmQ(u:Tm)(x:Ite):sameI (zay u x) x:=zaI _
def zmR(u:Tm)(x:Ite):sameI (zaC u x) x:=zaI _
def zoV(x:Ite):sameI (dblI x) x:=zaI _
structure ChOk(s:Sgm)(c:Int):Prop where
 lf:c=1\/c=3->0<=s.Left
 rt:c=2\/c=3->0<=s.Right
 al:c=4->s.From<s.To
def zr5{p a t:Bool}{s:Sgm}{c:Int}(h:c∈alR p a t s):(c=0/\(s.Count.N%3=0\/s.Free=true))\/(c=1/\p=true/\s.Count.N%3=1)\/(c=2/\a=true/\s.Free=false/\s.Count.N%3=1)\/(c=3/\p=true/\a=true/\s.Free=false/\s.Count.N%3=2)\/(c=4/\t=true/\s.Free=false/\s.Count.N%3=2):=by
 unfold alR at h;simp only[wN]at h;rcases h with(((h|h)|h)|h)|h
 ·split at h
  ·simp at h;exact .inl ⟨h,by assumption⟩
  ·simp at h
 all_goals simp_all
def zut{u:Tm}{k:Int}{l:List Ite}{L:List (Int×Bool)}{s:Sgm}(h:poQ u k l L s=true):0<=s.Left/\lgQ u (itg l s.Left)=true/\rcQ u (fsL (itR l s)) (itg l s.Left).After=true:=by
 simp_all[poQ]
def zuu{u:Tm}{k:Int}{l:List Ite}{s:Sgm}(h:anQ u k l s=true):0<=s.Right/\lgQ u (itg l s.Right)=true/\rcQ u (lasL (itR l s)) (itg l s.Right).Before=true:=by
 simp_all[anQ]
def zxD{u:Tm}{k:Int}{l:List Ite}{s:Sgm}(h:atQ u k l s=true):¬s.From=s.To/\ntQ u k (itg l (s.To-1))=true:=by
 simp_all[atQ]
def zg5{u:Tm}{k:Int}{l:List Ite}{L:List (Int×Bool)}{s:Sgm}{c:Int}(hs:s.From<=s.To)(h:c∈alQ u k l L s):ChOk s c:=by
 unfold alQ at h;rcases zr5 h with⟨V,_⟩|⟨V,Z,_⟩|⟨V,Z,_⟩|⟨V,Z,U,_⟩|⟨V,Z,_⟩
 ·exact⟨by omega,by omega,by omega⟩
 ·exact⟨λ_=>(zut Z).1,by omega,by omega⟩
 ·exact⟨by omega,λ_=>(zuu Z).1,by omega⟩
 ·exact⟨λ_=>(zut Z).1,λ_=>(zuu U).1,by omega⟩
 ·exact⟨by omega,by omega,λ_=>by have:=(zxD Z).1;omega⟩
def zr6{k:Int}{u:Tm}{s:Sgm}{c:Int}{l0 l:List Ite}(hs:SgOk k l0 s)(hl:l.length=l0.length)(T:ChOk s c){i:Int}(hi:0<=i):
 sameI (itg (chN u s c l) i) (itg l i)/\(¬i=s.Left->¬i=s.Right->¬i=s.To-1->itg (chN u s c l) i=itg l i)/\(¬i=s.Left->(itg (chN u s c l) i).After=(itg l i).After):=by
 unfold chN;simp only;have A:(if c=1\/c=3 then upI l s.Left (zay u)else l).length=l.length:=by split<;>simp[zgn]
 have B:(if c=2\/c=3 then upI (if c=1\/c=3 then upI l s.Left (zay u)else l) s.Right (zaC u)else(if c=1\/c=3 then upI l s.Left (zay u)else l)).length=l.length:=by split<;>simp[zgn,A]
 have N:sameI (itg (if c=1\/c=3 then upI l s.Left (zay u)else l) i) (itg l i)/\(¬i=s.Left->itg (if c=1\/c=3 then upI l s.Left (zay u)else l) i=itg l i):=by
  split
  ·rename_i h;have h0:=T.lf h;have Z:s.Left<l.length:=by have:=hs.tl;have:=hs.ft;rcases hs.lf with U|U<;>omega
   refine⟨zik (zmQ u) h0 hi Z,λQ=>?_⟩;rw[ze6 h0 hi Z,j4 (by omega)]
  ·exact⟨zaI _,λ_=>rfl⟩
 generalize(if c=1\/c=3 then upI l s.Left (zay u)else l)=l1 at*
 have U:sameI (itg (if c=2\/c=3 then upI l1 s.Right (zaC u)else l1) i) (itg l1 i)/\(¬i=s.Right->itg (if c=2\/c=3 then upI l1 s.Right (zaC u)else l1) i=itg l1 i)/\(itg (if c=2\/c=3 then upI l1 s.Right (zaC u)else l1) i).After=(itg l1 i).After:=by
  split
  ·rename_i h;have h0:=T.rt h;have Z:s.Right<l1.length:=by rw[A,hl];rcases hs.rt with U|U<;>omega
   refine⟨zik (zmR u) h0 hi Z,λQ=>?_,?_⟩
   ·rw[ze6 h0 hi Z,j4 (by omega)]
   ·rw[ze6 h0 hi Z];split
    ·rename_i h;subst h;rfl
    ·rfl
  ·exact⟨zaI _,λ_=>rfl,rfl⟩
 generalize(if c=2\/c=3 then upI l1 s.Right (zaC u)else l1)=l2 at*
 have J:sameI (itg (if c=4 then upI l2 (s.To-1) dblI else l2) i) (itg l2 i)/\(¬i=s.To-1->itg (if c=4 then upI l2 (s.To-1) dblI else l2) i=itg l2 i)/\(itg (if c=4 then upI l2 (s.To-1) dblI else l2) i).After=(itg l2 i).After:=by
  split
  ·rename_i h;have h0:=T.al h;have Z:s.To-1<l2.length:=by rw[B,hl];have:=hs.tl;omega
   have V:0<=s.To-1:=by have:=hs.f0;omega
   refine⟨zik zoV V hi Z,λQ=>?_,?_⟩
   ·rw[ze6 V hi Z,j4 (by omega)]
   ·rw[ze6 V hi Z];split
    ·rename_i h;subst h;rfl
    ·rfl
  ·exact⟨zaI _,λ_=>rfl,rfl⟩
 refine⟨J.1.tr (U.1.tr N.1),λa b d=>?_,λa=>?_⟩;all_goals simp_all
theorem zlQ(q r:Int)(x:Bool)(L:List (Int×Bool)):mget q (mput r x L)=if r=q then some x else mget q L:=by
 exact zdB q r x L
structure StaOk(l:List Ite)(S:List Sgm)(M:List Int)(n:Nat)(st:List Ite×List (Int×Bool)):Prop where
 len:st.1.length=l.length
 same:∀i:Int,0<=i->sameI (itg st.1 i) (itg l i)
 rest:∀s,S[n]? =some s->∀i:Int,s.From<=i->itg st.1 i=itg l i/\mget i st.2=none
 left:∀s,S[n]? =some s->0<=s.Left->(itg st.1 s.Left).After=(itg l s.Left).After/\(mget s.Left st.2).getD false=(decide (0<n)&&(decide (M.getD (n-1) 0=2)||decide (M.getD (n-1) 0=3)))
def zpL{u:Tm}{k:Int}{S:List Sgm}{l:List Ite}{M:List Int}(U:SgsOk k l S):∀n,n<=S.length->okJ u k S l M n=true->StaOk l S M n (stK u S l M n)
 |0,_,_=>by
  refine⟨rfl,λ_ _=>zaI _,λs hs i hi=>⟨rfl,rfl⟩,λs hs h0=>?_⟩;have:=U.st s hs;omega
 |n+1,E,V=>by
  have V:(okJ u k S l M n&&decide (M.getD n 0∈alK u k S l M n))=true:=V;simp only[j7,w5]at V;have ih:=zpL U n (by omega) V.1;rw[znA];have hs:S[n]? =some S[n]:=lgg (by omega);have T:S.getD n default=S[n]:=by grind
  have Z:=U.all _ (j6 hs);unfold alK at V;rw[T]at V⊢;generalize S[n]=s at*
  generalize stK u S l M n=st at*
  have Q:=zg5 Z.ft V.2;generalize hM:M.getD n 0=c at*
  have N:=λ(i:Int)(hi:0<=i)=>zr6 (u:=u) Z ih.len Q hi
  have J:s.Left<s.From:=by have:=Z.f0;rcases Z.lf with h|h<;>omega
  refine⟨by rw[znz];exact ih.len,λi hi=>(N i hi).1.tr (ih.same i hi),λt ht i hi=>?_,λt ht h0=>?_⟩
  ·obtain⟨n1,n2,n3⟩:=U.nx n s t hs ht;have I:0<=i:=by have:=(U.all t (j6 ht)).f0;omega
   have hf:=Z.ft;have hr:¬i=s.Right:=by rcases Z.rt with h|h<;>omega
   have:=ih.rest s hs i (by omega)
   grind[chL,zlQ]
  ·obtain⟨n1,n2,n3⟩:=U.nx n s t hs ht;have hr:0<=s.Right:=by omega
   have H:s.Right=s.To:=by rcases Z.rt with h|h<;>omega
   have hf:=Z.ft;have G:=ih.rest s hs t.Left (by omega)
   grind[chL,zlQ]
end
section
attribute [local irreducible] Pur yA yC Ex X Fn Imp LeV LeB FnO It yH
def bdX(k:Int)(l:List Ite):List (List AV):=(bds k l).map λb=>[bdA b]
def zkA{k:Int}{l:List Ite}{j:Nat}{zs:List AV}(h:(bdX k l)[j]? =some zs):∃b,(bds k l)[j]? =some b/\zs=[bdA b]:=by
 rw[bdX,jO]at h;cases Z:(bds k l)[j]? with
 |none=>simp[Z]at h
 |some b=>simp[Z]at h;exact⟨b,rfl,h.symm⟩
def znD(k:Int)(l:List Ite):(bdX k l).length=(bdK k l l.length).length+1:=by unfold bdX;rw[jX,ze5]
def znE{k:Int}{l:List Ite}(n:Nat):∀d,∃r,bdK k l (n+d)=bdK k l n++r
 |0=>⟨[],by simp⟩
 |d+1=>by
  obtain⟨r,hr⟩:=znE (k:=k) (l:=l) n d;cases hx:l[n+d]? with
  |none=>
   have e:bdK k l (n+d+1)=bdK k l (n+d):=by
    conv=>lhs;unfold bdK
    rw[hx]
   exact⟨r,by rw[show n+(d+1)=n+d+1 from rfl,e];exact hr⟩
  |some x=>exact⟨r++((if isH k x then[⟨(n+d:Nat),(n+d:Nat)+1,false⟩]else[])++if isC k x then[⟨-1,(n+d:Nat)+1,false⟩]else[]),by
   show bdK k l ((n+d)+1)=_;rw[zdv hx,hr];simp only[v7]⟩
def zmS{k:Int}{l:List Ite}{n:Nat}{p:List Bd}{b:Bd}{q:List Bd}(Z:n+1<=l.length)(h:bdK k l (n+1)=p++b::q):(bds k l)[p.length]? =some b:=by
 obtain⟨r,hr⟩:=znE (k:=k) (l:=l) (n+1) (l.length-(n+1));rw[show n+1+(l.length-(n+1))=l.length by omega,h]at hr;unfold bds;rw[hr];simp
def zil{k:Int}{l:List Ite}{i:Nat}{b:Bd}(h:(bds k l)[i]? =some b):(bdX k l)[i]? =some [bdA b]:=by
 unfold bdX;rw[jO,h];rfl
def zpM{k:Int}{l:List Ite}{n:Nat}{x:Ite}(hx:l[n]? =some x)(h:¬isH k x):
 (bdK k l (n+1)).length=(bdK k l n).length+(if isC k x then 1 else 0)/\(isC k x->(bdX k l)[(bdK k l n).length]? =some [bdA ⟨-1,(n:Int)+1,false⟩]):=by
 have hs:=zdv (k:=k) hx;rw[j4 h,wC]at hs;have Z:=(j1.1 hx).1;refine⟨by rw[hs,jE];split<;>rfl,λV=>zil (zmS (q:=[]) (n:=n) (by omega) (by rw[hs,j3 V]))⟩
def zxE{k:Int}{l:List Ite}{n:Nat}{x:Ite}(hx:l[n]? =some x)(h:isH k x):
 (bdX k l)[(bdK k l n).length]? =some [bdA ⟨(n:Int),(n:Int)+1,false⟩]/\(bdK k l (n+1)).length=(bdK k l n).length+1+(if isC k x then 1 else 0)/\(isC k x->(bdX k l)[(bdK k l n).length+1]? =some [bdA ⟨-1,(n:Int)+1,false⟩]):=by
 have hs:=zdv (k:=k) hx;rw[j3 h]at hs;have Z:=(j1.1 hx).1;refine⟨zil (zmS (n:=n) (by omega) (by rw[hs,v7];rfl)),by rw[hs,jE,jE];split<;>rfl,λV=>?_⟩;have:=zil (zmS (k:=k) (l:=l) (p:=bdK k l n++[⟨(n:Int),(n:Int)+1,false⟩]) (q:=[]) (n:=n) (b:=⟨-1,(n:Int)+1,false⟩) (by omega) (by rw[hs,j3 V]));rw[jE]at this;exact this
def zBk(k:Int)(l:List Ite):(bdX k l)[0]? =some [bdA ⟨-1,0,false⟩]:=zil (zlP k l)
def zvF(k:Int)(l:List Ite):(bdX k l)[(bdK k l l.length).length]? =some [bdA ⟨-1,(l.length:Int),true⟩]:=zil (by unfold bds;simp)
attribute [local irreducible] bdK bds bdX
set_option maxHeartbeats 4000000 in
def zeu(k:Int)(l:List Ite)(hl:l.length<=4000000):It prog 368 [.ept (λ_:Unit=>[.sl itE l]) () 0,.ept (λ_:Unit=>[iv k]) () 0] (bdX k l):=by
 have u3:(bdK k l 0).length=1:=by unfold bdK;rfl
 have u2:=ze2 k l l.length;refine It.intro (ts:=λlY=>[(0,.yv lY),(1,.ept (λ_:Unit=>[.sl itE l]) () 0),(2,.ept (λ_:Unit=>[iv k]) () 0)]) (n:=58) (by kernel_rfl) func368 rfl ntmps368 rfl (λ_=>rfl) (by simp) (λg w d ds Y lY hY=>?_);apply yf;apply ye;iterate 2 refine ya ?_
 refine Ex.yield hY rfl rfl rfl (kS _) rfl rfl (zBk k l) rfl (λb=>?_);refine gd ?_ ?_<;>intro x3
 ·subst x3;refine kE ?_;refine⟨.inr rfl,_,false,rfl,λI=>by simp at I⟩
 subst x3;apply yk;apply yf;apply ye;refine yE ?_;apply kB;refine zu (λn=>[(0,.yv lY),(1,.ept (λ_:Unit=>[.sl itE l]) () 0),(2,.ept (λ_:Unit=>[iv k]) () 0),(10,itsA l),(11,iv l.length),(12,iv (n:Int))]) (λn=>[(1000000,.yld (bdK k l n).length true)]) l.length (λn hk=>?_) (h0:=yd);refine gd ?_ ?_<;>intro u1
 ·obtain⟨x,hx⟩:∃x,l[n]? =some x:=⟨_,lgg (by omega)⟩;have k5:l[(n:Int).toNat]? =some x:=by simpa using hx
  apply yk;apply yf;apply kB;apply ye;iterate 3 refine ya ?_
  refine zk ?_;refine ya ?_;refine kK ?_;apply kQ;iterate 2 apply yf
  have w2:x.Color=true\/(x.Color=false/\¬x.Value<=k)\/(x.Color=false/\x.Value<=k):=by cases x.Color<;>simp;omega
  rcases w2 with H|⟨H,hq⟩|⟨H,hq⟩
  ·have U:((!x.Color)==true)=false:=by rw[H];rfl
   have x4:¬isH k x:=λh=>by rw[h.1]at H;cases H
   have hZ:=zpM (k:=k) hx x4;obtain⟨N,hC⟩:=hZ;apply yj;(iterate 4 refine ya ?_);(iterate 4 refine zbP ?_);(iterate 2 refine ya ?_);(iterate 7 refine zbP ?_);refine gd ?_ ?_<;>intro v9
   ·exact absurd v9 (by decide)
   apply yk;apply yf;have Q:¬0<x.Cut\/(0<x.Cut/\¬x.Cut<=k)\/(0<x.Cut/\x.Cut<=k):=by omega
   rcases Q with V|⟨V,Z⟩|⟨V,Z⟩
   ·have U:(decide (0<x.Cut)==true)=false:=by rw[jC V];rfl
    rw[j4 (λh=>V h.1),uN]at N;apply yj;(iterate 4 refine ya ?_);(iterate 4 refine zbP ?_);(iterate 2 refine ya ?_);(iterate 6 refine zbP ?_);refine gd ?_ ?_<;>intro v8
    ·exact absurd v8 (by decide)
    refine gq ?_;refine yz (n+1)
   ·have U:(decide (0<x.Cut)==true)=true:=by rw[jJ V];rfl
    have T:(decide (x.Cut<=k)==true)=false:=by rw[jC Z];rfl
    rw[j4 (λh=>Z h.2),uN]at N;apply yj;(iterate 4 refine ya ?_);(iterate 4 refine zag ?_);(iterate 2 refine ya ?_);(iterate 6 refine zbP ?_);refine gd ?_ ?_<;>intro v5
    ·exact absurd v5 (by decide)
    refine gq ?_;refine yz (n+1)
   ·have U:(decide (0<x.Cut)==true)=true:=by rw[jJ V];rfl
    have T:(decide (x.Cut<=k)==true)=true:=by rw[jJ Z];rfl
    have J:=hC ⟨V,Z⟩;rw[j3 ⟨V,Z⟩]at N;apply yj;(iterate 4 refine ya ?_);(iterate 4 refine zag ?_);(iterate 2 refine ya ?_);(iterate 4 refine zag ?_);refine zcz hY rfl rfl rfl (λ_=>⟨_,_,rfl,rfl,rfl,kS _,rfl,rfl,J,λb=>?_⟩) (λh=>absurd (h.symm.trans T) (by decide));refine zag ?_;refine gd ?_ ?_<;>intro x2
    ·subst x2;refine kE ?_;refine⟨.inr rfl,_,false,rfl,λI=>by simp at I⟩
    subst x2;refine gq ?_;refine yz (n+1)
  ·have U:((!x.Color)==true)=true:=by rw[H];rfl
   have T:(decide (x.Value<=k)==true)=false:=by rw[jC hq];rfl
   have x4:¬isH k x:=λh=>hq h.2
   have hZ:=zpM (k:=k) hx x4;obtain⟨N,hC⟩:=hZ;apply yj;(iterate 4 refine ya ?_);(iterate 4 refine zag ?_);(iterate 2 refine ya ?_);(iterate 7 refine zbP ?_);refine gd ?_ ?_<;>intro v4
   ·exact absurd v4 (by decide)
   apply yk;apply yf;have Q:¬0<x.Cut\/(0<x.Cut/\¬x.Cut<=k)\/(0<x.Cut/\x.Cut<=k):=by omega
   rcases Q with V|⟨V,Z⟩|⟨V,Z⟩
   ·have U:(decide (0<x.Cut)==true)=false:=by rw[jC V];rfl
    rw[j4 (λh=>V h.1),uN]at N;apply yj;(iterate 4 refine ya ?_);(iterate 4 refine zbP ?_);(iterate 2 refine ya ?_);(iterate 6 refine zbP ?_);refine gd ?_ ?_<;>intro v3
    ·exact absurd v3 (by decide)
    refine gq ?_;refine yz (n+1)
   ·have U:(decide (0<x.Cut)==true)=true:=by rw[jJ V];rfl
    have T:(decide (x.Cut<=k)==true)=false:=by rw[jC Z];rfl
    rw[j4 (λh=>Z h.2),uN]at N;apply yj;(iterate 4 refine ya ?_);(iterate 4 refine zag ?_);(iterate 2 refine ya ?_);(iterate 6 refine zbP ?_);refine gd ?_ ?_<;>intro v1
    ·exact absurd v1 (by decide)
    refine gq ?_;refine yz (n+1)
   ·have U:(decide (0<x.Cut)==true)=true:=by rw[jJ V];rfl
    have T:(decide (x.Cut<=k)==true)=true:=by rw[jJ Z];rfl
    have J:=hC ⟨V,Z⟩;rw[j3 ⟨V,Z⟩]at N;apply yj;(iterate 4 refine ya ?_);(iterate 4 refine zag ?_);(iterate 2 refine ya ?_);(iterate 4 refine zag ?_);refine zcz hY rfl rfl rfl (λ_=>⟨_,_,rfl,rfl,rfl,kS _,rfl,rfl,J,λb=>?_⟩) (λh=>absurd (h.symm.trans T) (by decide));refine zag ?_;refine gd ?_ ?_<;>intro G
    ·subst G;refine kE ?_;refine⟨.inr rfl,_,false,rfl,λI=>by simp at I⟩
    subst G;refine gq ?_;refine yz (n+1)
  ·have U:((!x.Color)==true)=true:=by rw[H];rfl
   have T:(decide (x.Value<=k)==true)=true:=by rw[jJ hq];rfl
   have hZ:=zxE (k:=k) hx ⟨H,hq⟩;obtain⟨v0,N,hC⟩:=hZ;apply yj;(iterate 4 refine ya ?_);(iterate 4 refine zag ?_);(iterate 2 refine ya ?_);(iterate 5 refine zag ?_);refine zcz hY rfl rfl rfl (λ_=>⟨_,_,rfl,rfl,rfl,kS _,rfl,rfl,v0,λb=>?_⟩) (λh=>absurd (h.symm.trans T) (by decide));refine zag ?_;refine gd ?_ ?_<;>intro E
   ·subst E;refine kE ?_;refine⟨.inr rfl,_,false,rfl,λI=>by simp at I⟩
   subst E;apply yk;apply yf;have Q:¬0<x.Cut\/(0<x.Cut/\¬x.Cut<=k)\/(0<x.Cut/\x.Cut<=k):=by omega
   rcases Q with V|⟨V,Z⟩|⟨V,Z⟩
   ·have U:(decide (0<x.Cut)==true)=false:=by rw[jC V];rfl
    rw[j4 (λh=>V h.1),uN]at N;apply yj;(iterate 4 refine ya ?_);(iterate 4 refine zbP ?_);(iterate 2 refine ya ?_);(iterate 6 refine zbP ?_);refine gd ?_ ?_<;>intro x1
    ·exact absurd x1 (by decide)
    refine gq ?_;refine yz (n+1)
   ·have U:(decide (0<x.Cut)==true)=true:=by rw[jJ V];rfl
    have T:(decide (x.Cut<=k)==true)=false:=by rw[jC Z];rfl
    rw[j4 (λh=>Z h.2),uN]at N;apply yj;(iterate 4 refine ya ?_);(iterate 4 refine zag ?_);(iterate 2 refine ya ?_);(iterate 6 refine zbP ?_);refine gd ?_ ?_<;>intro x0
    ·exact absurd x0 (by decide)
    refine gq ?_;refine yz (n+1)
   ·have U:(decide (0<x.Cut)==true)=true:=by rw[jJ V];rfl
    have T:(decide (x.Cut<=k)==true)=true:=by rw[jJ Z];rfl
    have J:=hC ⟨V,Z⟩;rw[j3 ⟨V,Z⟩]at N;apply yj;(iterate 4 refine ya ?_);(iterate 4 refine zag ?_);(iterate 2 refine ya ?_);(iterate 4 refine zag ?_);refine zcz hY rfl rfl rfl (λ_=>⟨_,_,rfl,rfl,rfl,kS _,rfl,rfl,J,λb=>?_⟩) (λh=>absurd (h.symm.trans T) (by decide));refine zag ?_;refine gd ?_ ?_<;>intro xT
    ·subst xT;refine kE ?_;refine⟨.inr rfl,_,false,rfl,λI=>by simp at I⟩
    subst xT;refine gq ?_;refine yz (n+1)
 ·have u4:n=l.length:=by omega
  subst u4;apply kO;apply yj;iterate 4 refine ya ?_
  refine Ex.yield hY rfl rfl rfl (kS _) rfl rfl (zvF k l) rfl (λb=>?_);apply kQ;refine⟨.inl rfl,_,b,rfl,λh=>by rw[znD,h];rfl⟩
def zfQ(k:Int)(l:List Ite):Fn prog 346 [iv k,itsA l] (.fn 368 [.ept (λ_:Unit=>[.sl itE l]) () 0,.ept (λ_:Unit=>[iv k]) () 0]):=by
 refine kF func346 ntmps346 (λg w d=>?_);apply ye;iterate 2 refine zeW ?_
 refine ya ?_;apply yG;refine yO ?_;refine kE ?_;refine kA ((y5 (k:=2) rfl rfl).trans (y5 (k:=3) rfl rfl)) ?_;refine gq ?_;all_goals exact zR
end
section
attribute [local irreducible] Pur yA yC Ex X Fn Imp LeV LeB FnO It yH
def fsB:Nat->Bool
 |0=>true
 |_+1=>false
def lsB(k:Int)(l:List Ite):Nat->Bd
 |0=>⟨0,0,false⟩
 |j+1=>(bds k l).getD j default
def zim{k:Int}{l:List Ite}{j:Nat}{b:Bd}(h:(bds k l)[j]? =some b):b=lsB k l (j+1):=by
 show b=(bds k l).getD j default;rw[j8,h];rfl
def zpN{k:Int}{l:List Ite}{j:Nat}(h:j<(bds k l).length):(lsB k l (j+1)).item<l.length:=by
 have Z:(bds k l)[j]? =some (bds k l)[j]:=lgg h;rw[←zim Z];have V:=(zmO k l).1 _ (j6 Z);have:=V.hi;rcases V.it with U|⟨U,T,Q⟩<;>omega
def zr7{k:Int}{l:List Ite}{j:Nat}(h:j+1<(bds k l).length):sgs0 l ((bds k l).take (j+1))++[sg0 l (lsB k l (j+1)) (lsB k l (j+2))]=sgs0 l ((bds k l).take (j+2)):=by
 have Z:(bds k l)[j]? =some (bds k l)[j]:=lgg (by omega);have V:(bds k l)[j+1]? =some (bds k l)[j+1]:=lgg h
 have e2:(bds k l).take (j+2)=((bds k l).take j++[(bds k l)[j]])++[(bds k l)[j+1]]:=by
  rw[jF,jF,Z,V];rfl
 have e1:(bds k l).take (j+1)=(bds k l).take j++[(bds k l)[j]]:=by rw[jF,Z];rfl
 rw[e2,e1,zjO,←zim Z,←zim V]
def zvG{k:Int}{l:List Ite}:sgs0 l ((bds k l).take 0)=sgs0 l ((bds k l).take 1):=by
 cases bds k l with
 |nil=>rfl
 |cons b r=>rfl
def zpO(k:Int)(l:List Ite)(j:Nat):(sgs0 l ((bds k l).take j)).length<=2*l.length+2:=by
 have h:=ze2 k l l.length;have Z:=ze5 k l;rw[zes,jM];omega
def zvH{k:Int}{l:List Ite}{j:Nat}(h:j<(bds k l).length):((lsB k l (j+1)).fin=true->j+1=(bds k l).length)/\((lsB k l (j+1)).fin=false->j+1<(bds k l).length):=by
 have Z:(bds k l)[j]? =some (bds k l)[j]:=lgg h;rw[←zim Z];have:=zr3 Z;rw[this];constructor
 ·intro h;simpa using h
 ·intro h;have:¬j+1=(bds k l).length:=by simpa using h
  omega
def zpP{k:Int}{l:List Ite}{j:Nat}(hf:fsB j=false)(h:j<(bds k l).length):sgs0 l ((bds k l).take j)++[sg0 l (lsB k l j) (lsB k l (j+1))]=sgs0 l ((bds k l).take (j+1)):=by
 cases j with
 |zero=>cases hf
 |succ i=>exact zr7 h
def zr8{k:Int}{l:List Ite}{j:Nat}(hf:fsB j=true):sgs0 l ((bds k l).take j)=sgs0 l ((bds k l).take (j+1)):=by
 cases j with
 |zero=>exact zvG
 |succ i=>cases hf
def zr9{k:Int}{l:List Ite}{j:Nat}(hf:fsB j=false)(h:j<(bds k l).length):(lsB k l j).item<l.length:=by
 cases j with
 |zero=>cases hf
 |succ i=>exact zpN (by omega)
attribute [local irreducible] bdK bds bdX sgs0 hdI
set_option maxHeartbeats 4000000 in
def zeb(q:List Ite)(k:Int)(hl:q.length<=1000000):FnO prog 328 [.agg [itsA q],iv k] [] [] (.own 39) [(39,.row smE (sgs0 q (bds k q)) 317 7)]:=by
 have x1:fsB 0=true:=by unfold fsB;rfl
 have x0:lsB k q 0=⟨0,0,false⟩:=by unfold lsB;rfl
 have w2:[]=sgs0 q ((bds k q).take 0):=by rw[vR];unfold sgs0;rfl
 have v9:sgs0 q ((bds k q).take (bdX k q).length)=sgs0 q (bds k q):=by rw[znD,←ze5,jH]
 refine bF (ts:=[(0,.agg [itsA q]),(1,iv k)]) (rv:=[.tmp 4]) (n:=43) (cs:=[]) (by kernel_rfl) func328 rfl ntmps328 rfl rfl (by simp) rfl rfl rfl rfl (λg w d vh=>?_);apply ye;refine zH ?_;refine ya ?_;apply yG;refine zk ?_;apply kQ;apply yf;refine kJ (zb0 smE 317 7 5 39 311 rfl rfl) ?_;refine gc (zfQ k q) ?_;refine X.range (sl:=[2,5,6,7]) (λj=>([.ptr 2 0 0 0,.ptr 5 0 0 0,.ptr 6 0 0 0,.ptr 7 0 0 0],[(1000001,.hold vh []),(2,.box [itsA q] 332),(5,.box [.own 39] 311),(39,.row smE (sgs0 q ((bds k q).take j)) 317 7),(6,.box (bdE (lsB k q j)) 379),(7,.box [.bool (fsB j)] 4)])) (λj=>True) 900001 900002 rfl rfl (by decide) (λj zs N=>by obtain⟨i,_,rfl⟩:=zkA N;rfl) (zeu k q (by omega)) trivial rfl rfl (by decide) (w7 _) (by simp) (λj zs N=>by obtain⟨i,_,rfl⟩:=zkA N;rfl) (λ_=>rfl) rfl rfl (λl o us=>yd) (trivial) (λj zs N hJ l ready busy rb vs g w hb v8=>?_) (λhJ=>?_)
 ·have G:=zkA N;obtain⟨b,J,rfl⟩:=G;have E:=zim J;subst E;have T:j<(bds k q).length:=(j1.1 J).1;have v5:=zpO k q j;have V:=zvH T;have v4:fsB (j+1)=false:=by unfold fsB;rfl
  apply yj;refine zk ?_;refine kK ?_;apply kQ;refine⟨rfl,rfl,?_⟩;refine gd ?_ ?_<;>intro Q
  ·have I:=zr9 Q T;have H:=zpN (k:=k) (l:=q) (j:=j) T;have Z:=zpP Q T;unfold sg0 bdF at Z;refine gd ?_ ?_<;>intro xT
   ·rw[j3 xT]at Z;refine gq ?_;refine yW [24,25,26,27,28,29,30,31,32,33,34,35,36,37] [0,0,2,0,0,0,48,0,0,496,0,1024,4094,8190,16383,32767] mo ?_;(iterate 6 refine yb ?_);refine yL (zaE q (lsB k q j) I) ?_;(iterate 2 refine yb ?_);refine yL (zaE q (lsB k q (j+1)) H) ?_;(iterate 3 refine yb ?_);refine ChM.step rfl rfl rfl (zD (k:=37) (enc:=smE) (l:=[⟨(lsB k q j).next,(lsB k q (j+1)).item,hdI q (lsB k q j),hdI q (lsB k q (j+1)),(lsB k q (j+1)).fin,⟨0,0⟩⟩]) zrI zrE zoL (by decide) rfl rfl rfl rfl (by decide) (by decide) (λ_=>rfl) rfl) rfl ?_;refine yF ?_;refine gd ?_ ?_<;>intro x4
    ·have U:(bds k q).take (j+1)=bds k q:=by rw[V.1 x4,jH]
     rw[U]at Z;apply kO;refine⟨[.ptr 2 0 0 0,.ptr 5 0 0 0,.ptr 6 0 0 0,.ptr 7 0 0 0],[(1000001,.hold vh []),(5,.box [.own 39] 311),(39,.row smE (sgs0 q (bds k q)) 317 7)],yd,?_⟩;apply ye;refine yO ?_;refine kE ?_;refine zou.mk (ts:=[(4,.own 39)]) (.inr rfl) (yd) (.one (.tmp rfl (kC rfl)))
    apply yk;refine⟨[.ptr 2 0 0 0,.ptr 5 0 0 0,.ptr 6 0 0 0,.ptr 7 0 0 0],[(1000001,.hold vh []),(2,.box [itsA q] 332),(5,.box [.own 39] 311),(39,.row smE (sgs0 q ((bds k q).take (j+1))) 317 7),(6,.box (bdE (lsB k q (j+1))) 379),(7,.box [.bool (fsB (j+1))] 4)],yd,rfl,trivial⟩
   ·rw[j4 (by omega)]at Z;apply yk;refine yW [24,25,26,27,28,29,30,31,32,33,34,35,36,37] [0,0,2,0,0,0,48,0,0,496,0,1024,4094,8190,16383,32767] mo ?_;(iterate 6 refine yb ?_);refine yL (zaE q (lsB k q j) I) ?_;(iterate 2 refine yb ?_);refine yL (zaE q (lsB k q (j+1)) H) ?_;(iterate 3 refine yb ?_);refine ChM.step rfl rfl rfl (zD (k:=37) (enc:=smE) (l:=[⟨(lsB k q j).next,(lsB k q (j+1)).next,hdI q (lsB k q j),hdI q (lsB k q (j+1)),(lsB k q (j+1)).fin,⟨0,0⟩⟩]) zrI zrE zoL (by decide) rfl rfl rfl rfl (by decide) (by decide) (λ_=>rfl) rfl) rfl ?_;refine yF ?_;refine gd ?_ ?_<;>intro x3
    ·have U:(bds k q).take (j+1)=bds k q:=by rw[V.1 x3,jH]
     rw[U]at Z;apply kO;refine⟨[.ptr 2 0 0 0,.ptr 5 0 0 0,.ptr 6 0 0 0,.ptr 7 0 0 0],[(1000001,.hold vh []),(5,.box [.own 39] 311),(39,.row smE (sgs0 q (bds k q)) 317 7)],yd,?_⟩;apply ye;refine yO ?_;refine kE ?_;refine zou.mk (ts:=[(4,.own 39)]) (.inr rfl) (yd) (.one (.tmp rfl (kC rfl)))
    apply yk;refine⟨[.ptr 2 0 0 0,.ptr 5 0 0 0,.ptr 6 0 0 0,.ptr 7 0 0 0],[(1000001,.hold vh []),(2,.box [itsA q] 332),(5,.box [.own 39] 311),(39,.row smE (sgs0 q ((bds k q).take (j+1))) 317 7),(6,.box (bdE (lsB k q (j+1))) 379),(7,.box [.bool (fsB (j+1))] 4)],yd,rfl,trivial⟩
  ·have Z:=zr8 (k:=k) (l:=q) Q;refine gd ?_ ?_<;>intro x2
   ·have U:(bds k q).take (j+1)=bds k q:=by rw[V.1 x2,jH]
    rw[U]at Z;apply kO;refine⟨[.ptr 2 0 0 0,.ptr 5 0 0 0,.ptr 6 0 0 0,.ptr 7 0 0 0],[(1000001,.hold vh []),(5,.box [.own 39] 311),(39,.row smE (sgs0 q (bds k q)) 317 7)],yd,?_⟩;apply ye;refine yO ?_;refine kE ?_;refine zou.mk (ts:=[(4,.own 39)]) (.inr rfl) (yd) (.one (.tmp rfl (kC rfl)))
   apply yk;refine⟨[.ptr 2 0 0 0,.ptr 5 0 0 0,.ptr 6 0 0 0,.ptr 7 0 0 0],[(1000001,.hold vh []),(2,.box [itsA q] 332),(5,.box [.own 39] 311),(39,.row smE (sgs0 q ((bds k q).take (j+1))) 317 7),(6,.box (bdE (lsB k q (j+1))) 379),(7,.box [.bool (fsB (j+1))] 4)],yd,rfl,trivial⟩
 apply ye;refine yO ?_;refine kE ?_;refine zou.mk (ts:=[(4,.own 39)]) (.inr rfl) (yd) (.one (.tmp rfl (kC rfl)))
end
end Go.Rse
