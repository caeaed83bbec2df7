/-
  Plain.
-/
import Derived.Test.YtamceaedmdmmlaaGreatDoorZJDurs2
set_option linter.all false
set_option maxHeartbeats 1000000
namespace Go.Rse
open Go Go.Proofs Go.Proofs.Tryz
section
structure Sgm where
 From:Int
 To:Int
 Left:Int
 Right:Int
 Free:Bool
 Count:Tm
 deriving DecidableEq
instance:Inhabited Sgm:=⟨⟨0,0,0,0,false,⟨0,0⟩⟩⟩
def smE:Sgm->List AV:=λx=>[.int .i64 x.From,.int .i64 x.To,.int .i64 x.Left,.int .i64 x.Right,.bool x.Free,.int .i64 x.Count.N,.int .i64 x.Count.D]
abbrev smA(x:Sgm):AV:=.agg (smE x)
abbrev smsA(l:List Sgm):AV:=.sl smE l
abbrev itT(x:Ite):List Tm:=[x.Dur,x.Before,x.After]
abbrev itKd(x:Ite):Prop:=(x.Rest=true/\x.Color=true)\/((x.Rest=true\/x.Color=true)/\x.Fixed=false)
abbrev itRg(x:Ite):Prop:=x.Value<1\/8<x.Value\/x.Cut<0\/8<x.Cut
def itF(x:Ite):Int:=if itRg x then 2 else if yM (itT x)=0 then(if itKd x then 8 else 0)else yM (itT x)
def ckIE:List Ite->Int
 |[]=>0
 |x::r=>if itF x=0 then ckIE r else itF x
def ckIX:List Ite->Int->Int
 |[],_=>0
 |x::r,k=>if itF x=0 then ckIX r (k+1)else k
def zbs{l:List Ite}{k:Nat}{x:Ite}(h:l[k]? =some x):ckIE (l.drop k)=if itF x=0 then ckIE (l.drop (k+1))else itF x:=by
 grind[List.drop_eq_getElem_cons,ckIE]
def zbt{l:List Ite}{k:Nat}{x:Ite}(n:Int)(h:l[k]? =some x):ckIX (l.drop k) n=if itF x=0 then ckIX (l.drop (k+1)) (n+1)else n:=by
 grind[List.drop_eq_getElem_cons,ckIX]
def zcI:∀{l:List Ite},ckIE l=0->∀x∈l,itF x=0
 |[],_,x,hx=>by simp at hx
 |s::r,h,x,hx=>by
  simp only[ckIE]at h;by_cases hs:itF s=0
  ·rw[j6 hs]at h;rcases wA.1 hx with rfl|hx
   ·exact hs
   ·exact zcI h x hx
  omega
def zhj{x:Ite}(h:itF x=0):(1<=x.Value/\x.Value<=8/\0<=x.Cut/\x.Cut<=8)/\ckT x.Dur=0/\ckT x.Before=0/\ckT x.After=0/\¬itKd x:=by
 unfold itF at h;split at h;all_goals grind[zkr]
def unE(m:Mn)(k:Int):Int:=if ckM m=0 then(if 1<=k/\k<=4/\m.p k=3 then 0 else 2)else ckM m
def unT(m:Mn)(k:Int):Tm:=if unE m k=0 then yw m (k+1)else tmZ
def zhE{m:Mn}{k:Int}(h:unE m k=0):ckM m=0/\1<=k/\k<=4/\m.p k=3:=by
 grind[unE]
structure Bd where
 item:Int
 next:Int
 fin:Bool
 deriving DecidableEq
instance:Inhabited Bd:=⟨⟨0,0,false⟩⟩
def bdE:Bd->List AV:=λx=>[.int .i64 x.item,.int .i64 x.next,.bool x.fin]
abbrev bdA(x:Bd):AV:=.agg (bdE x)
abbrev isH(k:Int)(x:Ite):Prop:=x.Color=false/\x.Value<=k
abbrev isC(k:Int)(x:Ite):Prop:=0<x.Cut/\x.Cut<=k
def bdK(k:Int)(l:List Ite):Nat->List Bd
 |0=>[⟨-1,0,false⟩]
 |n+1=>match l[n]? with
  |some x=>(bdK k l n++if isH k x then[⟨n,n+1,false⟩]else[])++if isC k x then[⟨-1,n+1,false⟩]else[]
  |none=>bdK k l n
def bds(k:Int)(l:List Ite):List Bd:=bdK k l l.length++[⟨-1,l.length,true⟩]
theorem zdy{k:Int}{l:List Ite}{n:Nat}{x:Ite}(h:l[n]? =some x):bdK k l (n+1)=(bdK k l n++if isH k x then[⟨n,n+1,false⟩]else[])++if isC k x then[⟨-1,n+1,false⟩]else[]:=by
 simp_all[bdK]
def zfb(k:Int)(l:List Ite):∀n,1<=(bdK k l n).length/\(bdK k l n).length<=2*n+1
 |0=>by simp[bdK]
 |n+1=>by
  have h:=zfb k l n
  grind[bdK]
def hdI(l:List Ite)(b:Bd):Int:=if b.item<0\/(l.getD b.item.toNat default).Fixed=true then-1 else b.item
abbrev bdF(b:Bd):Int:=if 0<=b.item then b.item else b.next
def sg0(l:List Ite)(b c:Bd):Sgm:=⟨b.next,bdF c,hdI l b,hdI l c,c.fin,⟨0,0⟩⟩
def sgs0(l:List Ite):List Bd->List Sgm
 |b::c::r=>sg0 l b c::sgs0 l (c::r)
 |_=>[]
def zer(l:List Ite):∀B:List Bd,(sgs0 l B).length=B.length-1
 |[]=>rfl
 |[_]=>rfl
 |b::c::r=>by
  have:=zer l (c::r);simp_all[sgs0]
theorem ziL(l:List Ite):∀(B:List Bd)(i:Nat)(b c:Bd),B[i]? =some b->B[i+1]? =some c->(sgs0 l B)[i]? =some (sg0 l b c)
 |[],i,b,c,h,_=>by simp at h
 |[_],i,b,c,_,h=>by simp at h
 |x::y::r,0,b,c,h,Z=>by
  grind[sgs0]
 |x::y::r,i+1,b,c,h,Z=>by
  have:=ziL l (y::r) i b c (by simpa using h) (by simpa using Z);simpa[sgs0]using this
def zkm(l:List Ite):∀(B:List Bd)(b c:Bd),sgs0 l ((B++[b])++[c])=sgs0 l (B++[b])++[sg0 l b c]
 |[],b,c=>rfl
 |[x],b,c=>rfl
 |x::y::r,b,c=>by
  have:=zkm l (y::r) b c;simp_all[sgs0]
def itR(l:List Ite)(s:Sgm):List Ite:=(l.drop s.From.toNat).take (s.To.toNat-s.From.toNat)
def drL(l:List Ite):List Tm:=l.map (·.Dur)
def lsE(a b:Tm):Int:=if subE a b=2 then 14 else subE a b
def cn1(t:Tm)(h:Int)(d:Tm):Tm×Int:=if h<0 then(t,0)else if lsE t d=0 then(subV t d,0)else(tmZ,lsE t d)
def cnA(l:List Ite)(s:Sgm):Tm×Int:=sumF ⟨0,1⟩ (drL (itR l s))
def cnB(l:List Ite)(s:Sgm):Tm×Int:=if(cnA l s).2=0 then cn1 (cnA l s).1 s.Left (l.getD s.Left.toNat default).After else(tmZ,(cnA l s).2)
def cnC(l:List Ite)(s:Sgm):Tm×Int:=if(cnB l s).2=0 then cn1 (cnB l s).1 s.Right (l.getD s.Right.toNat default).Before else(tmZ,(cnB l s).2)
def divE(a b:Tm):Int:=if yM [a,b]=0 then(if b.N=0 then 5 else tmsE a.N a.D b.D b.N)else yM [a,b]
def divV(a b:Tm):Tm:=if yM [a,b]=0 then(if b.N=0 then tmZ else tmsV a.N a.D b.D b.N)else tmZ
def cnE(u:Tm)(l:List Ite)(s:Sgm):Int:=if(cnC l s).2=0 then divE (cnC l s).1 u else(cnC l s).2
def cnV(u:Tm)(l:List Ite)(s:Sgm):Tm:=if(cnC l s).2=0 then divV (cnC l s).1 u else tmZ
def segW(u:Tm)(l:List Ite)(s:Sgm):Sgm:={s with Count:=cnV u l s}
def segR(u:Tm)(l:List Ite)(s:Sgm):Int:=if cnE u l s=0 then(if s.Free=false/\¬(cnV u l s).D=1 then 14 else 0)else cnE u l s
def segX(u:Tm)(l:List Ite):List Sgm->Int
 |[]=>0
 |s::r=>if segR u l s=0 then segX u l r else segR u l s
theorem zdz{u:Tm}{l:List Ite}{L:List Sgm}{k:Nat}{s:Sgm}(h:L[k]? =some s):segX u l (L.drop k)=if segR u l s=0 then segX u l (L.drop (k+1))else segR u l s:=by
 grind[List.drop_eq_getElem_cons,segX]
def zoz{u:Tm}{l:List Ite}:∀{L:List Sgm},segX u l L=0->∀s∈L,segR u l s=0
 |[],_,x,hx=>by simp at hx
 |s::r,h,x,hx=>by
  simp only[segX]at h;by_cases hs:segR u l s=0
  ·rw[j6 hs]at h;rcases wA.1 hx with rfl|hx
   ·exact hs
   ·exact zoz h x hx
  omega
def segE(m:Mn)(k:Int)(l:List Ite):Int:=if unE m k=0 then(if ckIE l=0 then segX (unT m k) l (sgs0 l (bds k l))else ckIE l)else unE m k
def segV(m:Mn)(k:Int)(l:List Ite):List Sgm:=if segE m k l=0 then(sgs0 l (bds k l)).map (segW (unT m k) l)else[]
def smF:Tm->List Tm->List Tm
 |_,[]=>[]
 |t,d::r=>addV t d::smF (addV t d) r
def fsL(l:List Ite):List Tm:=smF ⟨0,1⟩ (drL l)
def lasL(l:List Ite):List Tm:=match(fsL l).getLast? with
 |none=>[]
 |some a=>a::(((fsL l).dropLast.filter λt=>decide (subE a t=0)).map λt=>subV a t)
def rcQ(u:Tm)(sums:List Tm)(lost:Tm):Bool:=decide (addE lost u=0)&&decide (addV lost u∈sums)
def lgQ(u:Tm)(x:Ite):Bool:=decide (0<cmpV x.Dur u)
abbrev itg(l:List Ite)(i:Int):Ite:=l.getD i.toNat default
def poQ(u:Tm)(k:Int)(l:List Ite)(L:List (Int×Bool))(s:Sgm):Bool:=
 !decide (s.Left<0)&&((decide ((itg l s.Left).Value<k)||!(mget s.Left L).getD false)&&lgQ u (itg l s.Left)&&rcQ u (fsL (itR l s)) (itg l s.Left).After)
def blQ(k:Int)(l:List Ite)(h:Int):Bool:=
 decide ((itg l h).Value=k)&&decide (h+1<l.length)&&!decide (0<(itg l h).Cut)&&(!(itg l (h+1)).Color&&decide ((itg l (h+1)).Value=k))
def anQ(u:Tm)(k:Int)(l:List Ite)(s:Sgm):Bool:=
 !decide (s.Right<0)&&(!blQ k l s.Right&&(lgQ u (itg l s.Right)&&rcQ u (lasL (itR l s)) (itg l s.Right).Before))
def ntQ(u:Tm)(k:Int)(x:Ite):Bool:=!x.Rest&&!x.Color&&!x.Fixed&&decide (x.Value=k+1)&&decide (x.Dur=u)
def atQ(u:Tm)(k:Int)(l:List Ite)(s:Sgm):Bool:=
 !(decide (s.From=s.To)||s.Free)&&(ntQ u k (itg l (s.To-1))&&(decide (s.Right<0)||decide ((itg l s.Right).Before.N=0)))
def alR(p a t:Bool)(s:Sgm):List Int:=
 (if s.Count.N%3=0\/s.Free=true then[0]else[])++(if s.Count.N%3=1/\s.Count.D=1/\p=true then[1]else[])++(if s.Count.N%3=1/\s.Free=false/\a=true then[2]else[])++
 (if s.Count.N%3=2/\s.Free=false/\p=true/\a=true then[3]else[])++(if s.Count.N%3=2/\s.Free=false/\t=true then[4]else[])
def alQ(u:Tm)(k:Int)(l:List Ite)(L:List (Int×Bool))(s:Sgm):List Int:=alR (poQ u k l L s) (anQ u k l s) (atQ u k l s) s
def zaD(u:Tm)(x:Ite):Ite:={x with Dur:=subV x.Dur u,After:=addV x.After u}
def zaI(u:Tm)(x:Ite):Ite:={x with Dur:=subV x.Dur u,Before:=addV x.Before u}
def dblI(x:Ite):Ite:={x with Dur:=addV x.Dur x.Dur}
def upI(l:List Ite)(i:Int)(f:Ite->Ite):List Ite:=l.set i.toNat (f (itg l i))
def chN(u:Tm)(s:Sgm)(c:Int)(l:List Ite):List Ite:=
 let l1:=if c=1\/c=3 then upI l s.Left (zaD u)else l
 let l2:=if c=2\/c=3 then upI l1 s.Right (zaI u)else l1
 if c=4 then upI l2 (s.To-1) dblI else l2
def chL(s:Sgm)(c:Int)(L:List (Int×Bool)):List (Int×Bool):=if c=2\/c=3 then mput s.Right true L else L
theorem zfc(l:List Ite)(i:Int)(f:Ite->Ite):(upI l i f).length=l.length:=by unfold upI;simp
def zoA(u:Tm)(s:Sgm)(c:Int)(l:List Ite):(chN u s c l).length=l.length:=by
 grind[chN,zfc]
def stK(u:Tm)(S:List Sgm)(l:List Ite)(M:List Int):Nat->List Ite×List (Int×Bool)
 |0=>(l,[])
 |n+1=>(chN u (S.getD n default) (M.getD n 0) (stK u S l M n).1,chL (S.getD n default) (M.getD n 0) (stK u S l M n).2)
def alK(u:Tm)(k:Int)(S:List Sgm)(l:List Ite)(M:List Int)(n:Nat):List Int:=alQ u k (stK u S l M n).1 (stK u S l M n).2 (S.getD n default)
def okJ(u:Tm)(k:Int)(S:List Sgm)(l:List Ite)(M:List Int):Nat->Bool
 |0=>true
 |n+1=>okJ u k S l M n&&decide (M.getD n 0∈alK u k S l M n)
def zb7(u:Tm)(S:List Sgm)(l:List Ite)(M:List Int):∀n,(stK u S l M n).1.length=l.length
 |0=>rfl
 |n+1=>by show(chN _ _ _ _).length=_;rw[zoA,zb7 u S l M n]
def zmD(u:Tm)(S:List Sgm)(l:List Ite)(M:List Int)(n:Nat):stK u S l M (n+1)=(chN u (S.getD n default) (M.getD n 0) (stK u S l M n).1,chL (S.getD n default) (M.getD n 0) (stK u S l M n).2):=rfl
def apE(m:Mn)(k:Int)(l:List Ite)(M:List Int):Int:=if segE m k l=0 then(if¬(segV m k l).length=M.length\/okJ (unT m k) k (segV m k l) l M M.length=false then 2 else 0)else segE m k l
def apV(m:Mn)(k:Int)(l:List Ite)(M:List Int):List Ite:=if apE m k l M=0 then(stK (unT m k) (segV m k l) l M M.length).1 else[]
end
section
def zxE{t:Tm}(h:ckT t=0):Nat.gcd t.N.natAbs t.D.natAbs=1:=by
 have:=(zM h).2.2.2.2.2;unfold gI at this;omega
def zxF{a b:Int}(h:∀g:Nat,(g:Int)∣a->(g:Int)∣b->g=1):gI a b=1:=by
 simp_all[uK,x5,vO,gI]
def zoB{X Y:Int}(h:gI X Y=1)(h0:0<=X)(h1:1<=Y)(hX:X<=1099511627776)(Z:Y<=1048576):tmkE X Y=0/\tmkT X Y=⟨X,Y⟩/\ckT ⟨X,Y⟩=0:=by
 grind[tmkE,tmkT,ckT]
theorem zny{X Y:Int}(h0:0<=X)(h1:1<=Y)(h:tmkE X Y=0):ckT (tmkT X Y)=0:=by
 have hT:tmkT X Y=⟨X/gI X Y,Y/gI X Y⟩:=by unfold tmkT;rw[j6 h]
 have V:=zbY (n:=X) (d:=Y) (by omega);have gx:gI X Y∣X:=uK.2 (x5 _ _);have gy:gI X Y∣Y:=uK.2 (vO _ _);have ex:=vK gx;have ey:=vK gy;have T:0<=X/gI X Y:=uA h0 (by omega)
 have N:0<Y/gI X Y:=by
  apply jV;intro hn;have:=vS (show Y/gI X Y<=0 by omega) (uN V);omega
 have U:gI (X/gI X Y) (Y/gI X Y)=1:=zxF λd J H=>by
  obtain⟨a,G⟩:=J;obtain⟨b,E⟩:=H;have ea:=ex;rw[G]at ea;have eb:=ey;rw[E]at eb;have d1:((Nat.gcd X.natAbs Y.natAbs*d:Nat):Int)∣X:=⟨a,ea.symm.trans (by rw[Int.natCast_mul,vW];rfl)⟩;have d2:((Nat.gcd X.natAbs Y.natAbs*d:Nat):Int)∣Y:=⟨b,eb.symm.trans (by rw[Int.natCast_mul,vW];rfl)⟩;have d3:=Nat.dvd_gcd (uK.1 d1) (uK.1 d2);have Z:0<Nat.gcd X.natAbs Y.natAbs:=by unfold gI at V;omega
  obtain⟨q,hq⟩:=d3;have:d*q=1:=Nat.eq_of_mul_eq_mul_left Z (by rw[←Nat.mul_assoc,←hq,Nat.mul_one]);exact Nat.eq_one_of_mul_eq_one_right this
 grind[tmkE,ckT]
def ztw{a b c d:Nat}(Z:0<b)(V:0<d)(h1:Nat.gcd a b=1)(U:Nat.gcd c d=1):Nat.gcd (a/Nat.gcd a d*(c/Nat.gcd c b)) (b/Nat.gcd c b*(d/Nat.gcd a d))=1:=by
 have gad:=x9 a V;have gcb:=x9 c Z;have da:=xD (x5 a d);have dd:=xD (vO a d);have dc:=xD (x5 c b);have db:=xD (vO c b);have x1:Nat.Coprime (a/Nat.gcd a d) (b/Nat.gcd c b):=(Nat.Coprime.coprime_dvd_left da h1).coprime_dvd_right db;have x2:Nat.Coprime (a/Nat.gcd a d) (d/Nat.gcd a d):=Nat.coprime_div_gcd_div_gcd gad;have x3:Nat.Coprime (c/Nat.gcd c b) (b/Nat.gcd c b):=Nat.coprime_div_gcd_div_gcd gcb;have x4:Nat.Coprime (c/Nat.gcd c b) (d/Nat.gcd a d):=(Nat.Coprime.coprime_dvd_left dc U).coprime_dvd_right dd
 grind[Nat.Coprime.mul_left,Nat.Coprime.mul_right]
def znz(a b:Nat):gI (a:Int) (b:Int)=(Nat.gcd a b:Nat):=rfl
def ztx{a b c d:Int}(h0:0<=a)(h1:1<=b)(Z:0<=c)(V:1<=d)(g1:gI a b=1)(g2:gI c d=1):
 gI (a/gI a d*(c/gI c b)) (b/gI c b*(d/gI a d))=1:=by
 obtain⟨a,rfl⟩:=uC h0;obtain⟨b,rfl⟩:=uC (show 0<=b by omega);obtain⟨c,rfl⟩:=uC Z;obtain⟨d,rfl⟩:=uC (show 0<=d by omega);rw[znz]at g1 g2⊢;rw[znz];simp only[←Int.natCast_ediv,←Int.natCast_mul];rw[znz,ztw (by omega) (by omega) (by omega) (by omega)];rfl
def zoC{a b:Tm}(Z:ckT a=0)(V:ckT b=0):yM [a,b]=0:=by simp[yM,Z,V]
def zoD{a b:Tm}(h:addE a b=0):ckT a=0/\ckT b=0/\ckT (addV a b)=0:=by
 unfold addE at h;split at h
 ·rename_i hf;obtain⟨Z,V⟩:=zbZ hf;have b1:=zM Z;have b2:=zM V;refine⟨Z,V,?_⟩;unfold addV;rw[j6 hf];have m1:=vQ b1.1 b2.2.2.1;have m2:=vQ b2.1 b1.2.2.1;exact zny (by omega) (mulP b1.2.2.2.2.1 b2.2.2.2.2.1) h
 omega
def zty{a b:Tm}(h:subE a b=0):ckT a=0/\ckT b=0/\ckT (subV a b)=0:=by
 grind[subE,zbZ,subV,tmkE,zny,mulP,ckT]
theorem zAo{a:Tm}(h:ckT a=0):subE a ⟨0,1⟩=0/\subV a ⟨0,1⟩=a:=by
 have b:=zM h;have Z:ckT ⟨0,1⟩=0:=by decide+kernel
 simp_all[zoB,subE,subV,zoC]
end
section
def zxG{a b c d:Int}(h0:0<=a)(h1:1<=b)(N:0<=c)(J:1<=d)(g1:gI a b=1)(g2:gI c d=1):rtsE a b c d=tmsE a b c d/\rtsV a b c d=tmsV a b c d:=by
 have U:=ztx h0 h1 N J g1 g2
 have p:∀x y:Int,1<=y->1<=y/gI x y:=λx y hy=>by
  have U:=zbY (n:=x) (d:=y) (by omega);have gy:gI x y∣y:=uK.2 (vO _ _);have ey:=vK gy;apply jV;intro hn;have:=vS (show y/gI x y<=0 by omega) (uN U);omega
 have pb:=p c b h1;have pd:=p a d J;have pa:0<=a/gI a d:=uA h0 (zwh _ _);have pc:0<=c/gI c b:=uA N (zwh _ _);unfold rtsV rtsE tmsE tmsV;generalize a/gI a d=A at*
 generalize c/gI c b=Y at*
 generalize b/gI c b=B at*
 generalize d/gI a d=E at*
 have hn:0<=A*Y:=vQ pa pc;have hd:1<=B*E:=mulP pb pd
 have q1:(0<E/\1048576/E<B)↔1048576<B*E:=by
  constructor
  ·rintro⟨x,y⟩
   apply jV;intro H;have:=(Int.le_ediv_iff_mul_le x (a:=B) (b:=1048576)).2 (by omega);omega
  ·intro H;refine⟨by omega,Int.ediv_lt_of_lt_mul (by omega) H⟩
 have T:bigQ A B Y E↔((0<A/\1099511627776/A<Y)\/1048576<B*E):=by unfold bigQ;rw[q1]
 by_cases Z:(0<A/\1099511627776/A<Y)\/1048576<B*E
 ·rw[j6 Z,j6 (T.2 Z),j6 (T.2 Z),j7 (by decide)];exact⟨rfl,rfl⟩
 ·have V:¬bigQ A B Y E:=λh=>Z (T.1 h)
  have hA:A*Y<=1099511627776:=by
   by_cases G:0<A
   ·exact zfe G (by decide) (λh=>Z (.inl ⟨G,h⟩))
   ·rw[show A=0 by omega,Int.zero_mul];decide
  obtain⟨k1,k2,k3⟩:=zoB U hn hd hA (by omega);rw[j7 Z,j7 V,j7 V,j6 rfl];exact⟨k1.symm,k2.symm⟩
attribute [local irreducible] Pur yy yz Ex X Fn Imp LeV LeB FnO It yH
attribute [local irreducible] gI
def znA(a b:Tm):Fn prog 286 [tmA a,tmA b] (.tup [tmA (divV a b),iv (divE a b)]):=by
 refine kR func286 ntmps286 (λg w d=>?_);refine gq ?_;refine yD tmE [⟨_,_⟩,⟨_,_⟩] ?_;refine bF (kL (k:=9) rfl) ?_;refine gc (zay [a,b] (by simp)) ?_;refine gd ?_ ?_<;>intro Z
 ·have hE:divE a b=yM [a,b]:=by unfold divE;rw[j7 Z]
  have U:divV a b=tmZ:=by unfold divV;rw[j7 Z]
  refine gq ?_;refine yx ty61 ?_ ?_;all_goals(first|exact zE hE|exact zE U)
 have T:=zbZ Z;have b1:=zM T.1;have b2:=zM T.2;refine gd ?_ ?_<;>intro V
 ·have hE:divE a b=5:=by unfold divE;rw[j6 Z,j6 V]
  have U:divV a b=tmZ:=by unfold divV;rw[j6 Z,j6 V]
  refine gq ?_;refine yx ty61 ?_ ?_;all_goals(first|exact zE hE|exact zE U)
 have hE:divE a b=tmsE a.N a.D b.D b.N:=by unfold divE;rw[j6 Z,j7 V]
 have U:divV a b=tmsV a.N a.D b.D b.N:=by unfold divV;rw[j6 Z,j7 V]
 refine gc (zgY a.N a.D b.D b.N b1.1 b1.2.1 b1.2.2.2.2.1 (by omega) (by omega) (by omega) (by omega) (by omega)) ?_;refine yx ty61 ?_ ?_;all_goals(first|exact zE hE|exact zE U)
def zaJ(a b:Tm):Fn prog 275 [tmA a,tmA b] (.tup [tmA (divV a b),iv (divE a b)]):=by
 refine kR func275 ntmps275 (λg w d=>?_);refine gc (z6 a b) ?_;refine gd ?_ ?_<;>intro Z
 ·have hE:divE a b=yM [a,b]:=by unfold divE;rw[j7 Z]
  have U:divV a b=tmZ:=by unfold divV;rw[j7 Z]
  refine gq ?_;refine yx ty61 ?_ ?_;all_goals(first|exact zE hE|exact zE U)
 have T:=zbZ Z;have b1:=zM T.1;have b2:=zM T.2;refine gd ?_ ?_<;>intro V
 ·have hE:divE a b=5:=by unfold divE;rw[j6 Z,j6 V]
  have U:divV a b=tmZ:=by unfold divV;rw[j6 Z,j6 V]
  refine gq ?_;refine yx ty61 ?_ ?_;all_goals(first|exact zE hE|exact zE U)
 have hE:divE a b=tmsE a.N a.D b.D b.N:=by unfold divE;rw[j6 Z,j7 V]
 have U:divV a b=tmsV a.N a.D b.D b.N:=by unfold divV;rw[j6 Z,j7 V]
 have hr:=zxG (a:=a.N) (b:=a.D) (c:=b.D) (d:=b.N) b1.1 b1.2.2.2.2.1 (by omega) (by omega) b1.2.2.2.2.2 (by have J:=b2.2.2.2.2.2;unfold gI at*;rw[Nat.gcd_comm];exact J);rw[←hr.1]at hE;rw[←hr.2]at U;refine gc (zcl a.N a.D b.D b.N b1.1 b1.2.1 b1.2.2.2.2.1 (by omega) (by omega) (by omega) (by omega) (by omega)) ?_;refine yx ty61 ?_ ?_;all_goals(first|exact zE hE|exact zE U)
end
section
attribute [local irreducible] Pur yy yz Ex X Fn Imp LeV LeB FnO It yH
def zhk(m:Mn)(k:Int):k∈perfL m↔(1<=k/\k<=4/\m.p k=3):=by
 unfold perfL;simp only[wU,wA,List.not_mem_nil,or_false,w4];constructor
 ·rintro⟨h1,Z⟩;exact⟨by omega,by omega,Z⟩
 ·rintro⟨h1,Z,V⟩;exact⟨by omega,V⟩
def zmE(x:Ite){j:Nat}{t:Tm}(h:(itT x)[j]? =some t):(([iv x.Dur.N,iv x.Dur.D,iv x.Before.N,iv x.Before.D,iv x.After.N,iv x.After.D]:List AV).drop ((j:Int).toNat*2)).take 2=tmE t:=by
 have Z:j<3:=(j5.1 h).1;have:j=0\/j=1\/j=2:=by omega
 rcases this with rfl|rfl|rfl<;>(injection h with h;subst h;rfl)
attribute [local irreducible] ckT yM perfL
def zfD(l:List Ite)(hl:l.length<=4000000):Fn prog 105 [itsA l] (.tup [iv (ckIE l),iv (ckIX l 0)]):=by
 refine kR func105 ntmps105 (λg w d=>?_);apply ye;refine yQ ?_;apply yh;apply ye;refine yC ?_;apply kP;refine zW (λk=>[(9,itsA l),(10,iv l.length),(11,iv (k:Int))]) (λk=>[]) (λk=>k<=l.length/\ckIE l=ckIE (l.drop k)/\ckIX l 0=ckIX (l.drop k) (k:Int)) l.length (λk hk=>?_) (hJ:=by exact⟨by omega,rfl,rfl⟩) (h0:=yd);obtain⟨x4,Z,V⟩:=hk;refine gd ?_ ?_<;>intro x3
 ·have E:=@getX _ l k (by omega);obtain⟨x,hx,x2⟩:=E;apply yk;apply yh;apply kP;apply ye;iterate 3 refine ya ?_
  refine za ?_;refine ya ?_;refine kV ?_;apply kW;apply yh;apply ye;iterate 3 refine ya ?_
  refine kU 3 ?_;refine yo ?_;iterate 3 refine kS ?_
  iterate 2 refine yo ?_
  iterate 3 refine kS ?_
  iterate 2 refine yo ?_
  iterate 3 refine kS ?_
  refine gf ?_ ?_<;>intro x1
  ·have U:itF x=2:=by unfold itF;rw[j6 (by unfold itRg;omega)]
   have hE:ckIE l=2:=by rw[Z,zbs hx,U,j7 (by decide)]
   have hX:ckIX l 0=(k:Int):=by rw[V,zbt _ hx,U,j7 (by decide)]
   refine gq ?_;refine yl ?_ ?_;all_goals(first|exact zE hE|exact zE hX)
  have hR:¬itRg x:=by unfold itRg;omega
  have hT:(itT x).length=3:=rfl;apply yk;apply yh;apply ye;iterate 7 refine ya ?_
  refine yj ?_;apply kP;refine zW (λj=>[(9,itsA l),(10,iv l.length),(11,iv (k:Int)),(4,iv (k:Int)),(5,.ptr 5 0 0 0),(41,.agg [iv x.Dur.N,iv x.Dur.D,iv x.Before.N,iv x.Before.D,iv x.After.N,iv x.After.D]),(42,iv (j:Int))]) (λj=>[(5,.box (itE x) 129)]) (λj=>j<=3/\yM (itT x)=yM ((itT x).drop j)) 3 (λj hk=>?_) (hJ:=by exact⟨by omega,rfl⟩) (h0:=yd);obtain⟨x0,J⟩:=hk;refine gd ?_ ?_<;>intro w9
  ·obtain⟨t,ht⟩:∃t,(itT x)[j]? =some t:=⟨_,lgg (show j<(itT x).length by simp;omega)⟩;have xT:=zmE x ht;have w2:(itT x)[(j:Int).toNat]? =some t:=by simpa using ht
   apply yk;apply yh;apply kP;apply ye;refine ya (hs:=by exact zI ArK.h TyK.h rfl rfl (by omega) (by omega) xT) ?_;refine gc (zcx t) ?_;refine gd ?_ ?_<;>intro T
   ·have hf:yM (itT x)=ckT t:=by rw[J,zbu ht,j7 T]
    have U:itF x=ckT t:=by unfold itF;rw[j7 hR,hf,j7 T]
    have hE:ckIE l=ckT t:=by rw[Z,zbs hx,U,j7 T]
    have hX:ckIX l 0=(k:Int):=by rw[V,zbt _ hx,U,j7 T]
    refine gq ?_;refine yl ?_ ?_;all_goals(first|exact zE hE|exact zE hX)
   refine gq ?_;refine yu (j+1) (hJ:=by exact⟨by omega,by rw[J,zbu ht,j6 T]⟩)
  ·have hf:yM (itT x)=0:=by rw[J,wH (by simp;omega)];unfold yM;rfl
   apply bA;apply ye;(iterate 2 refine ya ?_);refine kU 2 ?_;refine yo ?_;(iterate 2 refine kS ?_);(iterate 2 refine yo ?_);(iterate 11 refine kS ?_);refine gf ?_ ?_<;>intro H
   ·have U:itF x=8:=by unfold itF;rw[j7 hR,j6 hf,j6 (by unfold itKd;revert H;cases x.Rest<;>cases x.Color<;>cases x.Fixed<;>simp)]
    have hE:ckIE l=8:=by rw[Z,zbs hx,U,j7 (by decide)]
    have hX:ckIX l 0=(k:Int):=by rw[V,zbt _ hx,U,j7 (by decide)]
    refine gq ?_;refine yl ?_ ?_;all_goals(first|exact zE hE|exact zE hX)
   have U:itF x=0:=by unfold itF;rw[j7 hR,j6 hf,j7 (by unfold itKd;revert H;cases x.Rest<;>cases x.Color<;>cases x.Fixed<;>simp)]
   refine gq ?_;refine yu (k+1) (hJ:=by exact⟨by omega,by rw[Z,zbs hx,j6 U],by rw[V,zbt _ hx,j6 U];rfl⟩)
 ·have G:k=l.length:=by omega
  have hE:ckIE l=0:=by rw[Z,G,wT];rfl
  have hX:ckIX l 0=0:=by rw[V,G,wT];rfl
  refine gq ?_;refine yl ?_ ?_;all_goals(first|exact zE hE|exact zE hX)
def zcn(l:List Ite)(hl:l.length<=4000000):Fn prog 140 [itsA l] (.tup [iv (ckIE l),iv (ckIX l 0)]):=by
 refine kR func140 ntmps140 (λg w d=>?_);apply ye;refine yQ ?_;apply yh;apply ye;refine yj ?_;apply kP;refine zW (λk=>[(0,itsA l),(4,iv (k:Int))]) (λk=>[]) (λk=>k<=l.length/\ckIE l=ckIE (l.drop k)/\ckIX l 0=ckIX (l.drop k) (k:Int)) l.length (λk hk=>?_) (hJ:=by exact⟨by omega,rfl,rfl⟩) (h0:=yd);obtain⟨xT,Z,V⟩:=hk;refine gd ?_ ?_<;>intro x4
 ·have G:=@getX _ l k (by omega);obtain⟨x,hx,x3⟩:=G;apply yk;apply yh;apply kP;apply ye;iterate 4 refine ya ?_
  refine za ?_;refine kV ?_;apply kW;apply yh;apply ye;iterate 3 refine ya ?_
  refine kU 3 ?_;refine yo ?_;iterate 3 refine kS ?_
  iterate 2 refine yo ?_
  iterate 3 refine kS ?_
  iterate 2 refine yo ?_
  iterate 3 refine kS ?_
  refine gf ?_ ?_<;>intro x2
  ·have U:itF x=2:=by unfold itF;rw[j6 (by unfold itRg;omega)]
   have hE:ckIE l=2:=by rw[Z,zbs hx,U,j7 (by decide)]
   have hX:ckIX l 0=(k:Int):=by rw[V,zbt _ hx,U,j7 (by decide)]
   refine gq ?_;refine yl ?_ ?_;all_goals(first|exact zE hE|exact zE hX)
  have E:¬itRg x:=by unfold itRg;omega
  have hT:(itT x).length=3:=rfl;refine gq ?_;refine bE (yr (enc:=tmE) (l:=[x.Dur,x.Before,x.After]) sl38 ty61 ze61 (by decide) rfl rfl rfl rfl (by decide) (by decide) (λ_=>rfl) rfl) rfl rfl ?_;refine yj ?_;apply yh;apply ye;refine yj ?_;apply kP;refine zW (λj=>[(0,itsA l),(4,iv (k:Int)),(5,.ptr 5 0 0 0),(6,tmsA (itT x)),(7,iv (j:Int))]) (λj=>[(5,.box (itE x) 129)]) (λj=>j<=3/\yM (itT x)=yM ((itT x).drop j)) 3 (λj hk=>?_) (hJ:=by exact⟨by omega,rfl⟩) (h0:=yd);obtain⟨x1,N⟩:=hk;refine gd ?_ ?_<;>intro x0
  ·obtain⟨t,ht⟩:∃t,(itT x)[j]? =some t:=⟨_,lgg (show j<(itT x).length by simp;omega)⟩;have w9:=zmE x ht;have w2:(itT x)[(j:Int).toNat]? =some t:=by simpa using ht
   refine gc (zS t) ?_;refine gd ?_ ?_<;>intro T
   ·have hf:yM (itT x)=ckT t:=by rw[N,zbu ht,j7 T]
    have U:itF x=ckT t:=by unfold itF;rw[j7 E,hf,j7 T]
    have hE:ckIE l=ckT t:=by rw[Z,zbs hx,U,j7 T]
    have hX:ckIX l 0=(k:Int):=by rw[V,zbt _ hx,U,j7 T]
    refine gq ?_;refine yl ?_ ?_;all_goals(first|exact zE hE|exact zE hX)
   refine gq ?_;refine yu (j+1) (hJ:=by exact⟨by omega,by rw[N,zbu ht,j6 T]⟩)
  ·have hf:yM (itT x)=0:=by rw[N,wH (by simp;omega)];unfold yM;rfl
   apply bA;apply ye;(iterate 2 refine ya ?_);refine kU 2 ?_;refine yo ?_;(iterate 2 refine kS ?_);(iterate 2 refine yo ?_);(iterate 11 refine kS ?_);refine gf ?_ ?_<;>intro J
   ·have U:itF x=8:=by unfold itF;rw[j7 E,j6 hf,j6 (by unfold itKd;revert J;cases x.Rest<;>cases x.Color<;>cases x.Fixed<;>simp)]
    have hE:ckIE l=8:=by rw[Z,zbs hx,U,j7 (by decide)]
    have hX:ckIX l 0=(k:Int):=by rw[V,zbt _ hx,U,j7 (by decide)]
    refine gq ?_;refine yl ?_ ?_;all_goals(first|exact zE hE|exact zE hX)
   have U:itF x=0:=by unfold itF;rw[j7 E,j6 hf,j7 (by unfold itKd;revert J;cases x.Rest<;>cases x.Color<;>cases x.Fixed<;>simp)]
   refine gq ?_;refine yu (k+1) (hJ:=by exact⟨by omega,by rw[Z,zbs hx,j6 U],by rw[V,zbt _ hx,j6 U];rfl⟩)
 ·have H:k=l.length:=by omega
  have hE:ckIE l=0:=by rw[Z,H,wT];rfl
  have hX:ckIX l 0=0:=by rw[V,H,wT];rfl
  refine gq ?_;refine yl ?_ ?_;all_goals(first|exact zE hE|exact zE hX)
def zgC(m:Mn)(k:Int)(h0:-9223372036854775808<=k)(h1:k<=9223372036854775807):Fn prog 254 [mnA m,iv k] (.tup [tmA (unT m k),iv (unE m k)]):=by
 refine kR func254 ntmps254 (λg w d=>?_);refine gc (zdl m) ?_;refine gd ?_ ?_<;>intro T
 ·have U:unE m k=ckM m:=by unfold unE;rw[j7 T]
  have N:unT m k=tmZ:=by unfold unT;rw[j7 (by rw[U];exact T)]
  refine gq ?_;refine yx ty61 ?_ ?_;all_goals(first|exact zE U|exact zE N)
 have Z:ckM m=0:=T;refine gc (yV (if ckM m=0 then perfL m else[]) k (by have:=zkd m;split<;>simp<;>omega)) ?_;refine gd ?_ ?_<;>intro V
 ·rw[j6 Z]at V;have U:unE m k=2:=by unfold unE;rw[j6 Z,j7 (λh=>absurd ((zhk m k).2 h) (by simpa using V))]
  have N:unT m k=tmZ:=by unfold unT;rw[j7 (by rw[U];decide)]
  refine gq ?_;refine yx ty61 ?_ ?_;all_goals(first|exact zE U|exact zE N)
 rw[j6 Z]at V;have hm:=(zhk m k).1 (by simpa using V);have U:unE m k=0:=by unfold unE;rw[j6 Z,j6 hm]
 have N:unT m k=yw m (k+1):=by unfold unT;rw[j6 U]
 refine gc (zaZ (v:=k+1) Z (by omega) (by omega)) ?_;refine yx ty61 ?_ ?_;all_goals(first|exact zE U|exact zE N)
def zcJ(m:Mn)(k:Int):Fn prog 245 [mnA m,iv k] (.tup [tmA (unT m k),iv (unE m k)]):=by
 refine kR func245 ntmps245 (λg w d=>?_);refine gc (zn m) ?_;refine gd ?_ ?_<;>intro V
 ·have Z:unE m k=ckM m:=by unfold unE;rw[j7 V]
  have T:unT m k=tmZ:=by unfold unT;rw[j7 (by rw[Z];exact V)]
  refine gq ?_;refine yx ty61 ?_ ?_;all_goals(first|exact zE Z|exact zE T)
 have U:ckM m=0:=V;apply yk;apply yh;apply ye;iterate 2 refine ya ?_
 refine kU 2 ?_;refine gq ?_;refine bJ (yX m k) ?_;refine kS ?_;refine gf ?_ ?_<;>intro N
 ·have Z:unE m k=2:=by unfold unE;rw[j6 U,j7 (by omega)]
  have T:unT m k=tmZ:=by unfold unT;rw[j7 (by rw[Z];decide)]
  refine gq ?_;refine yx ty61 ?_ ?_;all_goals(first|exact zE Z|exact zE T)
 have Z:unE m k=0:=by unfold unE;rw[j6 U,j6 (by omega)]
 have T:unT m k=yw m (k+1):=by unfold unT;rw[j6 Z]
 refine gc (zy (v:=k+1) U (by omega) (by omega)) ?_;refine yx ty61 ?_ ?_;all_goals(first|exact zE Z|exact zE T)
def zaK(l:List Ite)(b:Bd)(U:b.item<l.length):Fn prog 281 [.agg [itsA l],bdA b] (iv (hdI l b)):=by
 refine kR func281 ntmps281 (λg w d=>?_);apply ye;iterate 2 refine zz ?_
 refine yj ?_;apply yh;apply ye;iterate 3 refine ya ?_
 refine kU 3 ?_;refine yo ?_;iterate 7 refine kS ?_
 refine gf ?_ ?_<;>intro Z
 ·have V:hdI l b=-1:=by unfold hdI;rw[j6 Z]
  refine gq ?_;all_goals rw[V]
 have V:hdI l b=b.item:=by unfold hdI;rw[j7 (by rintro(h|h);omega;(rw[Z.2]at h;cases h))]
 refine gq ?_;all_goals rw[V]
def zcK(l:List Ite)(b:Bd)(U:b.item<l.length):Fn prog 247 [itsA l,.agg [iv (bdF b),iv b.next,iv b.item]] (iv (hdI l b)):=by
 refine kR func247 ntmps247 (λg w d=>?_);apply ye;refine zz ?_;refine yj ?_;apply yh;apply ye;iterate 3 refine ya ?_
 refine kU 3 ?_;refine yo ?_;iterate 7 refine kS ?_
 refine gf ?_ ?_<;>intro Z
 ·have V:hdI l b=b.item:=by unfold hdI;rw[j7 (by rintro(h|h);omega;(rw[Z.2]at h;cases h))]
  refine gq ?_;all_goals rw[V]
 have V:hdI l b=-1:=by unfold hdI;rw[j6 (by rcases Z with h|h;exact .inl (by omega);exact .inr h)]
 refine gq ?_;all_goals rw[V]
def zbh(a b:Tm):Fn prog 274 [tmA a,tmA b] (.tup [tmA (if lsE a b=0 then subV a b else tmZ),iv (lsE a b)]):=by
 refine kR func274 ntmps274 (λg w d=>?_);refine gc (zae a b) ?_;refine gd ?_ ?_<;>intro Z
 ·have hE:lsE a b=14:=by unfold lsE;rw[j6 Z]
  refine gq ?_;refine yx ty61 ?_ ?_;all_goals(first|exact zE hE|(rw[hE,V];done)|(rw[hE,V];rfl))
 have hE:lsE a b=subE a b:=by unfold lsE;rw[j7 Z]
 have V:(if subE a b=0 then subV a b else tmZ)=subV a b:=by
  split
  ·rfl
  ·rename_i h;unfold subV;unfold subE at h;split
   ·rename_i U;rw[j6 U]at h;unfold tmkT;rw[j7 h]
   ·rfl
 refine gq ?_;refine yx ty61 ?_ ?_;all_goals(first|exact zE hE|(rw[hE,V];done)|(rw[hE,V];rfl))
end
end Go.Rse
