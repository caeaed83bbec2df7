/-
  Plain.
-/
import Derived.Test.YtbopkhoalndflaaGreatDoorUJSortF
set_option linter.all false
namespace Go.Rse
open Go Go.Proofs Go.Proofs.Tryz
section
structure Sgm where
 From:Int
 To:Int
 Left:Int
 Right:Int
 Free:Bool
 Count:Tm
 deriving DecidableEq
instance:Inhabited Sgm:=⟨⟨0,0,0,0,false,⟨0,0⟩⟩⟩
def smE:Sgm->List AV:=λx=>[.int .i64 x.From,.int .i64 x.To,.int .i64 x.Left,.int .i64 x.Right,.bool x.Free,.int .i64 x.Count.N,.int .i64 x.Count.D]
abbrev smA(x:Sgm):AV:=.agg (smE x)
abbrev smsA(l:List Sgm):AV:=.sl smE l
abbrev itT(x:Ite):List Tm:=[x.Dur,x.Before,x.After]
abbrev itKd(x:Ite):Prop:=(x.Rest=true/\x.Color=true)\/((x.Rest=true\/x.Color=true)/\x.Fixed=false)
abbrev itRg(x:Ite):Prop:=x.Value<1\/8<x.Value\/x.Cut<0\/8<x.Cut
def itF(x:Ite):Int:=if itRg x then 2 else if yK (itT x)=0 then(if itKd x then 8 else 0)else yK (itT x)
def ckIE:List Ite->Int
 |[]=>0
 |x::r=>if itF x=0 then ckIE r else itF x
def ckIX:List Ite->Int->Int
 |[],_=>0
 |x::r,k=>if itF x=0 then ckIX r (k+1)else k
def zbu{l:List Ite}{k:Nat}{x:Ite}(h:l[k]? =some x):ckIE (l.drop k)=if itF x=0 then ckIE (l.drop (k+1))else itF x:=by
 grind[List.drop_eq_getElem_cons,ckIE]
def zbv{l:List Ite}{k:Nat}{x:Ite}(n:Int)(h:l[k]? =some x):ckIX (l.drop k) n=if itF x=0 then ckIX (l.drop (k+1)) (n+1)else n:=by
 grind[List.drop_eq_getElem_cons,ckIX]
def zcZ:∀{l:List Ite},ckIE l=0->∀x∈l,itF x=0
 |[],_,x,hx=>by simp at hx
 |s::r,h,x,hx=>by
  simp only[ckIE]at h;by_cases hs:itF s=0
  ·rw[j4 hs]at h;rcases w6.1 hx with rfl|hx
   ·exact hs
   ·exact zcZ h x hx
  omega
def zhs{x:Ite}(h:itF x=0):(1<=x.Value/\x.Value<=8/\0<=x.Cut/\x.Cut<=8)/\ckT x.Dur=0/\ckT x.Before=0/\ckT x.After=0/\¬itKd x:=by
 unfold itF at h;split at h;all_goals grind[zkB]
def unE(m:Mn)(k:Int):Int:=if ckM m=0 then(if 1<=k/\k<=4/\m.p k=3 then 0 else 2)else ckM m
def unT(m:Mn)(k:Int):Tm:=if unE m k=0 then yy m (k+1)else tmZ
def zhS{m:Mn}{k:Int}(h:unE m k=0):ckM m=0/\1<=k/\k<=4/\m.p k=3:=by
 grind[unE]
structure Bd where
 item:Int
 next:Int
 fin:Bool
 deriving DecidableEq
instance:Inhabited Bd:=⟨⟨0,0,false⟩⟩
def bdE:Bd->List AV:=λx=>[.int .i64 x.item,.int .i64 x.next,.bool x.fin]
abbrev bdA(x:Bd):AV:=.agg (bdE x)
abbrev isH(k:Int)(x:Ite):Prop:=x.Color=false/\x.Value<=k
abbrev isC(k:Int)(x:Ite):Prop:=0<x.Cut/\x.Cut<=k
def bdK(k:Int)(l:List Ite):Nat->List Bd
 |0=>[⟨-1,0,false⟩]
 |n+1=>match l[n]? with
  |some x=>(bdK k l n++if isH k x then[⟨n,n+1,false⟩]else[])++if isC k x then[⟨-1,n+1,false⟩]else[]
  |none=>bdK k l n
def bds(k:Int)(l:List Ite):List Bd:=bdK k l l.length++[⟨-1,l.length,true⟩]
theorem zdR{k:Int}{l:List Ite}{n:Nat}{x:Ite}(h:l[n]? =some x):bdK k l (n+1)=(bdK k l n++if isH k x then[⟨n,n+1,false⟩]else[])++if isC k x then[⟨-1,n+1,false⟩]else[]:=by
 simp_all[bdK]
def zfj(k:Int)(l:List Ite):∀n,1<=(bdK k l n).length/\(bdK k l n).length<=2*n+1
 |0=>by simp[bdK]
 |n+1=>by
  have h:=zfj k l n
  grind[bdK]
def hdI(l:List Ite)(b:Bd):Int:=if b.item<0\/(l.getD b.item.toNat default).Fixed=true then-1 else b.item
abbrev bdF(b:Bd):Int:=if 0<=b.item then b.item else b.next
def sg0(l:List Ite)(b c:Bd):Sgm:=⟨b.next,bdF c,hdI l b,hdI l c,c.fin,⟨0,0⟩⟩
def sgs0(l:List Ite):List Bd->List Sgm
 |b::c::r=>sg0 l b c::sgs0 l (c::r)
 |_=>[]
def zeM(l:List Ite):∀B:List Bd,(sgs0 l B).length=B.length-1
 |[]=>rfl
 |[_]=>rfl
 |b::c::r=>by
  have:=zeM l (c::r);simp_all[sgs0]
theorem ziT(l:List Ite):∀(B:List Bd)(i:Nat)(b c:Bd),B[i]? =some b->B[i+1]? =some c->(sgs0 l B)[i]? =some (sg0 l b c)
 |[],i,b,c,h,_=>by simp at h
 |[_],i,b,c,_,h=>by simp at h
 |x::y::r,0,b,c,h,Z=>by
  grind[sgs0]
 |x::y::r,i+1,b,c,h,Z=>by
  have:=ziT l (y::r) i b c (by simpa using h) (by simpa using Z);simpa[sgs0]using this
def zko(l:List Ite):∀(B:List Bd)(b c:Bd),sgs0 l ((B++[b])++[c])=sgs0 l (B++[b])++[sg0 l b c]
 |[],b,c=>rfl
 |[x],b,c=>rfl
 |x::y::r,b,c=>by
  have:=zko l (y::r) b c;simp_all[sgs0]
def itR(l:List Ite)(s:Sgm):List Ite:=(l.drop s.From.toNat).take (s.To.toNat-s.From.toNat)
def drL(l:List Ite):List Tm:=l.map (·.Dur)
def lsE(a b:Tm):Int:=if subE a b=2 then 14 else subE a b
def cn1(t:Tm)(h:Int)(d:Tm):Tm×Int:=if h<0 then(t,0)else if lsE t d=0 then(subV t d,0)else(tmZ,lsE t d)
def cnA(l:List Ite)(s:Sgm):Tm×Int:=sumF ⟨0,1⟩ (drL (itR l s))
def cnB(l:List Ite)(s:Sgm):Tm×Int:=if(cnA l s).2=0 then cn1 (cnA l s).1 s.Left (l.getD s.Left.toNat default).After else(tmZ,(cnA l s).2)
def cnC(l:List Ite)(s:Sgm):Tm×Int:=if(cnB l s).2=0 then cn1 (cnB l s).1 s.Right (l.getD s.Right.toNat default).Before else(tmZ,(cnB l s).2)
def divE(a b:Tm):Int:=if yK [a,b]=0 then(if b.N=0 then 5 else tmsE a.N a.D b.D b.N)else yK [a,b]
def divV(a b:Tm):Tm:=if yK [a,b]=0 then(if b.N=0 then tmZ else tmsV a.N a.D b.D b.N)else tmZ
def cnE(u:Tm)(l:List Ite)(s:Sgm):Int:=if(cnC l s).2=0 then divE (cnC l s).1 u else(cnC l s).2
def cnV(u:Tm)(l:List Ite)(s:Sgm):Tm:=if(cnC l s).2=0 then divV (cnC l s).1 u else tmZ
def segW(u:Tm)(l:List Ite)(s:Sgm):Sgm:={s with Count:=cnV u l s}
def segR(u:Tm)(l:List Ite)(s:Sgm):Int:=if cnE u l s=0 then(if s.Free=false/\¬(cnV u l s).D=1 then 14 else 0)else cnE u l s
def segX(u:Tm)(l:List Ite):List Sgm->Int
 |[]=>0
 |s::r=>if segR u l s=0 then segX u l r else segR u l s
theorem zdS{u:Tm}{l:List Ite}{L:List Sgm}{k:Nat}{s:Sgm}(h:L[k]? =some s):segX u l (L.drop k)=if segR u l s=0 then segX u l (L.drop (k+1))else segR u l s:=by
 grind[List.drop_eq_getElem_cons,segX]
def zof{u:Tm}{l:List Ite}:∀{L:List Sgm},segX u l L=0->∀s∈L,segR u l s=0
 |[],_,x,hx=>by simp at hx
 |s::r,h,x,hx=>by
  simp only[segX]at h;by_cases hs:segR u l s=0
  ·rw[j4 hs]at h;rcases w6.1 hx with rfl|hx
   ·exact hs
   ·exact zof h x hx
  omega
def segE(m:Mn)(k:Int)(l:List Ite):Int:=if unE m k=0 then(if ckIE l=0 then segX (unT m k) l (sgs0 l (bds k l))else ckIE l)else unE m k
def segV(m:Mn)(k:Int)(l:List Ite):List Sgm:=if segE m k l=0 then(sgs0 l (bds k l)).map (segW (unT m k) l)else[]
def smF:Tm->List Tm->List Tm
 |_,[]=>[]
 |t,d::r=>addV t d::smF (addV t d) r
def fsL(l:List Ite):List Tm:=smF ⟨0,1⟩ (drL l)
def lasL(l:List Ite):List Tm:=match(fsL l).getLast? with
 |none=>[]
 |some a=>a::(((fsL l).dropLast.filter λt=>decide (subE a t=0)).map λt=>subV a t)
def rcQ(u:Tm)(sums:List Tm)(lost:Tm):Bool:=decide (addE lost u=0)&&decide (addV lost u∈sums)
def lgQ(u:Tm)(x:Ite):Bool:=decide (0<cmpV x.Dur u)
abbrev itg(l:List Ite)(i:Int):Ite:=l.getD i.toNat default
def poQ(u:Tm)(k:Int)(l:List Ite)(L:List (Int×Bool))(s:Sgm):Bool:=
 !decide (s.Left<0)&&((decide ((itg l s.Left).Value<k)||!(mget s.Left L).getD false)&&lgQ u (itg l s.Left)&&rcQ u (fsL (itR l s)) (itg l s.Left).After)
def blQ(k:Int)(l:List Ite)(h:Int):Bool:=
 decide ((itg l h).Value=k)&&decide (h+1<l.length)&&!decide (0<(itg l h).Cut)&&(!(itg l (h+1)).Color&&decide ((itg l (h+1)).Value=k))
def anQ(u:Tm)(k:Int)(l:List Ite)(s:Sgm):Bool:=
 !decide (s.Right<0)&&(!blQ k l s.Right&&(lgQ u (itg l s.Right)&&rcQ u (lasL (itR l s)) (itg l s.Right).Before))
def ntQ(u:Tm)(k:Int)(x:Ite):Bool:=!x.Rest&&!x.Color&&!x.Fixed&&decide (x.Value=k+1)&&decide (x.Dur=u)
def atQ(u:Tm)(k:Int)(l:List Ite)(s:Sgm):Bool:=
 !(decide (s.From=s.To)||s.Free)&&(ntQ u k (itg l (s.To-1))&&(decide (s.Right<0)||decide ((itg l s.Right).Before.N=0)))
def alR(p a t:Bool)(s:Sgm):List Int:=
 (if s.Count.N%3=0\/s.Free=true then[0]else[])++(if s.Count.N%3=1/\s.Count.D=1/\p=true then[1]else[])++(if s.Count.N%3=1/\s.Free=false/\a=true then[2]else[])++
 (if s.Count.N%3=2/\s.Free=false/\p=true/\a=true then[3]else[])++(if s.Count.N%3=2/\s.Free=false/\t=true then[4]else[])
def alQ(u:Tm)(k:Int)(l:List Ite)(L:List (Int×Bool))(s:Sgm):List Int:=alR (poQ u k l L s) (anQ u k l s) (atQ u k l s) s
def zaD(u:Tm)(x:Ite):Ite:={x with Dur:=subV x.Dur u,After:=addV x.After u}
def zaI(u:Tm)(x:Ite):Ite:={x with Dur:=subV x.Dur u,Before:=addV x.Before u}
def dblI(x:Ite):Ite:={x with Dur:=addV x.Dur x.Dur}
def upI(l:List Ite)(i:Int)(f:Ite->Ite):List Ite:=l.set i.toNat (f (itg l i))
def chN(u:Tm)(s:Sgm)(c:Int)(l:List Ite):List Ite:=
 let l1:=if c=1\/c=3 then upI l s.Left (zaD u)else l
 let l2:=if c=2\/c=3 then upI l1 s.Right (zaI u)else l1
 if c=4 then upI l2 (s.To-1) dblI else l2
def chL(s:Sgm)(c:Int)(L:List (Int×Bool)):List (Int×Bool):=if c=2\/c=3 then mput s.Right true L else L
theorem zgK(l:List Ite)(i:Int)(f:Ite->Ite):(upI l i f).length=l.length:=by unfold upI;simp
def zog(u:Tm)(s:Sgm)(c:Int)(l:List Ite):(chN u s c l).length=l.length:=by
 grind[chN,zgK]
def stK(u:Tm)(S:List Sgm)(l:List Ite)(M:List Int):Nat->List Ite×List (Int×Bool)
 |0=>(l,[])
 |n+1=>(chN u (S.getD n default) (M.getD n 0) (stK u S l M n).1,chL (S.getD n default) (M.getD n 0) (stK u S l M n).2)
def alK(u:Tm)(k:Int)(S:List Sgm)(l:List Ite)(M:List Int)(n:Nat):List Int:=alQ u k (stK u S l M n).1 (stK u S l M n).2 (S.getD n default)
def okJ(u:Tm)(k:Int)(S:List Sgm)(l:List Ite)(M:List Int):Nat->Bool
 |0=>true
 |n+1=>okJ u k S l M n&&decide (M.getD n 0∈alK u k S l M n)
def zcl(u:Tm)(S:List Sgm)(l:List Ite)(M:List Int):∀n,(stK u S l M n).1.length=l.length
 |0=>rfl
 |n+1=>by show(chN _ _ _ _).length=_;rw[zog,zcl u S l M n]
def zoh(u:Tm)(S:List Sgm)(l:List Ite)(M:List Int)(n:Nat):stK u S l M (n+1)=(chN u (S.getD n default) (M.getD n 0) (stK u S l M n).1,chL (S.getD n default) (M.getD n 0) (stK u S l M n).2):=rfl
def apE(m:Mn)(k:Int)(l:List Ite)(M:List Int):Int:=if segE m k l=0 then(if¬(segV m k l).length=M.length\/okJ (unT m k) k (segV m k l) l M M.length=false then 2 else 0)else segE m k l
def apV(m:Mn)(k:Int)(l:List Ite)(M:List Int):List Ite:=if apE m k l M=0 then(stK (unT m k) (segV m k l) l M M.length).1 else[]
end
section
def zwf{a b:Int}(h:∀g:Nat,(g:Int)∣a->(g:Int)∣b->g=1):gI a b=1:=by
 simp_all[v7,xO,vT,gI]
def zoi{X Y:Int}(h:gI X Y=1)(h0:0<=X)(Z:1<=Y)(hX:X<=1099511627776)(V:Y<=1048576):tmkE X Y=0/\tmkT X Y=⟨X,Y⟩/\ckT ⟨X,Y⟩=0:=by
 grind[tmkE,tmkT,ckT]
theorem zqp{X Y:Int}(h0:0<=X)(h1:1<=Y)(h:tmkE X Y=0):ckT (tmkT X Y)=0:=by
 have hT:tmkT X Y=⟨X/gI X Y,Y/gI X Y⟩:=by unfold tmkT;rw[j4 h]
 have V:=zdd (n:=X) (d:=Y) (by omega);have gx:gI X Y∣X:=v7.2 (xO _ _);have gy:gI X Y∣Y:=v7.2 (vT _ _);have ex:=xQ gx;have ey:=xQ gy;have T:0<=X/gI X Y:=wX h0 (by omega)
 have Q:0<Y/gI X Y:=by
  apply jZ;intro hn;have:=vN (show Y/gI X Y<=0 by omega) (uC V);omega
 have U:gI (X/gI X Y) (Y/gI X Y)=1:=zwf λd N J=>by
  obtain⟨a,I⟩:=N;obtain⟨b,H⟩:=J;have ea:=ex;rw[I]at ea;have eb:=ey;rw[H]at eb;have d1:((Nat.gcd X.natAbs Y.natAbs*d:Nat):Int)∣X:=⟨a,ea.symm.trans (by rw[Int.natCast_mul,Int.mul_assoc];rfl)⟩;have d2:((Nat.gcd X.natAbs Y.natAbs*d:Nat):Int)∣Y:=⟨b,eb.symm.trans (by rw[Int.natCast_mul,Int.mul_assoc];rfl)⟩;have d3:=Nat.dvd_gcd (v7.1 d1) (v7.1 d2);have Z:0<Nat.gcd X.natAbs Y.natAbs:=by unfold gI at V;omega
  obtain⟨q,E⟩:=d3;have:d*q=1:=Nat.eq_of_mul_eq_mul_left Z (by rw[←Nat.mul_assoc,←E,Nat.mul_one]);exact Nat.eq_one_of_mul_eq_one_right this
 grind[tmkE,ckT]
def zsB{a b c d:Nat}(Z:0<b)(V:0<d)(U:Nat.gcd a b=1)(T:Nat.gcd c d=1):Nat.gcd (a/Nat.gcd a d*(c/Nat.gcd c b)) (b/Nat.gcd c b*(d/Nat.gcd a d))=1:=by
 have gad:=x9 a V;have gcb:=x9 c Z;have da:=xG (xO a d);have dd:=xG (vT a d);have dc:=xG (xO c b);have db:=xG (vT c b);have x1:Nat.Coprime (a/Nat.gcd a d) (b/Nat.gcd c b):=(Nat.Coprime.coprime_dvd_left da U).coprime_dvd_right db;have x2:Nat.Coprime (a/Nat.gcd a d) (d/Nat.gcd a d):=Nat.coprime_div_gcd_div_gcd gad;have x3:Nat.Coprime (c/Nat.gcd c b) (b/Nat.gcd c b):=Nat.coprime_div_gcd_div_gcd gcb;have x4:Nat.Coprime (c/Nat.gcd c b) (d/Nat.gcd a d):=(Nat.Coprime.coprime_dvd_left dc T).coprime_dvd_right dd
 grind[Nat.Coprime.mul_left,Nat.Coprime.mul_right]
def znl(a b:Nat):gI (a:Int) (b:Int)=(Nat.gcd a b:Nat):=rfl
def zsC{a b c d:Int}(h0:0<=a)(V:1<=b)(Z:0<=c)(U:1<=d)(g1:gI a b=1)(g2:gI c d=1):
 gI (a/gI a d*(c/gI c b)) (b/gI c b*(d/gI a d))=1:=by
 obtain⟨a,rfl⟩:=u9 h0;obtain⟨b,rfl⟩:=u9 (show 0<=b by omega);obtain⟨c,rfl⟩:=u9 Z;obtain⟨d,rfl⟩:=u9 (show 0<=d by omega);rw[znl]at g1 g2⊢;rw[znl];simp only[←Int.natCast_ediv,←Int.natCast_mul];rw[znl,zsB (by omega) (by omega) (by omega) (by omega)];rfl
def zsD{a b:Tm}(Z:ckT a=0)(V:ckT b=0):yK [a,b]=0:=by simp[yK,Z,V]
def zsE{a b:Tm}(h:addE a b=0):ckT a=0/\ckT b=0/\ckT (addV a b)=0:=by
 unfold addE at h;split at h
 ·rename_i hf;obtain⟨Z,V⟩:=zch hf;have b1:=zap Z;have b2:=zap V;refine⟨Z,V,?_⟩;unfold addV;rw[j4 hf];have m1:=vM b1.1 b2.2.2.1;have m2:=vM b2.1 b1.2.2.1;exact zqp (by omega) (mulP b1.2.2.2.2.1 b2.2.2.2.2.1) h
 omega
def zsF{a b:Tm}(h:subE a b=0):ckT a=0/\ckT b=0/\ckT (subV a b)=0:=by
 grind[subE,zch,subV,tmkE,zqp,mulP,ckT]
theorem zyz{a:Tm}(h:ckT a=0):subE a ⟨0,1⟩=0/\subV a ⟨0,1⟩=a:=by
 have b:=zap h;have Z:ckT ⟨0,1⟩=0:=by decide+kernel
 simp_all[zoi,subE,subV,zsD]
end
section
def zwg{a b c d:Int}(h0:0<=a)(Q:1<=b)(N:0<=c)(J:1<=d)(g1:gI a b=1)(g2:gI c d=1):rtsE a b c d=tmsE a b c d/\rtsV a b c d=tmsV a b c d:=by
 have U:=zsC h0 Q N J g1 g2
 have p:∀x y:Int,1<=y->1<=y/gI x y:=λx y hy=>by
  have U:=zdd (n:=x) (d:=y) (by omega);have gy:gI x y∣y:=v7.2 (vT _ _);have ey:=xQ gy;apply jZ;intro I;have:=vN (show y/gI x y<=0 by omega) (uC U);omega
 have pb:=p c b Q;have pd:=p a d J;have pa:0<=a/gI a d:=wX h0 (zvn _ _);have pc:0<=c/gI c b:=wX N (zvn _ _);unfold rtsV rtsE tmsE tmsV;generalize a/gI a d=A at*
 generalize c/gI c b=Y at*
 generalize b/gI c b=B at*
 generalize d/gI a d=E at*
 have I:0<=A*Y:=vM pa pc;have hd:1<=B*E:=mulP pb pd
 have q1:(0<E/\1048576/E<B)↔1048576<B*E:=by
  constructor
  ·rintro⟨x,y⟩
   apply jZ;intro H;have:=(Int.le_ediv_iff_mul_le x (a:=B) (b:=1048576)).2 (by omega);omega
  ·intro H;refine⟨by omega,Int.ediv_lt_of_lt_mul (by omega) H⟩
 have T:bigQ A B Y E↔((0<A/\1099511627776/A<Y)\/1048576<B*E):=by unfold bigQ;rw[q1]
 by_cases Z:(0<A/\1099511627776/A<Y)\/1048576<B*E
 ·rw[j4 Z,j4 (T.2 Z),j4 (T.2 Z),j3 (by decide)];exact⟨rfl,rfl⟩
 ·have V:¬bigQ A B Y E:=λh=>Z (T.1 h)
  have hA:A*Y<=1099511627776:=by
   by_cases hz:0<A
   ·exact zfr hz (by decide) (λh=>Z (.inl ⟨hz,h⟩))
   ·rw[show A=0 by omega,Int.zero_mul];decide
  obtain⟨k1,k2,k3⟩:=zoi U I hd hA (by omega);rw[j3 Z,j3 V,j3 V,j4 rfl];exact⟨k1.symm,k2.symm⟩
attribute [local irreducible] Pur yA yC Ex X Fn Imp LeV LeB FnO It yH
attribute [local irreducible] gI
def znm(a b:Tm):Fn prog 352 [tmA a,tmA b] (.tup [tmA (divV a b),iv (divE a b)]):=by
 refine kC func352 ntmps352 (λg w d=>?_);refine gq ?_;refine yz tmE [⟨_,_⟩,⟨_,_⟩] ?_;refine kR (k9 (k:=9) rfl) ?_;refine gc (zay [a,b] (by simp)) ?_;refine gd ?_ ?_<;>intro Z
 ·have hE:divE a b=yK [a,b]:=by unfold divE;rw[j3 Z]
  have U:divV a b=tmZ:=by unfold divV;rw[j3 Z]
  refine gq ?_;refine yD ty83 ?_ ?_;all_goals(first|exact zE hE|exact zE U)
 have T:=zch Z;have b1:=zap T.1;have b2:=zap T.2;refine gd ?_ ?_<;>intro V
 ·have hE:divE a b=5:=by unfold divE;rw[j4 Z,j4 V]
  have U:divV a b=tmZ:=by unfold divV;rw[j4 Z,j4 V]
  refine gq ?_;refine yD ty83 ?_ ?_;all_goals(first|exact zE hE|exact zE U)
 have hE:divE a b=tmsE a.N a.D b.D b.N:=by unfold divE;rw[j4 Z,j3 V]
 have U:divV a b=tmsV a.N a.D b.D b.N:=by unfold divV;rw[j4 Z,j3 V]
 refine gc (zg3 a.N a.D b.D b.N b1.1 b1.2.1 b1.2.2.2.2.1 (by omega) (by omega) (by omega) (by omega) (by omega)) ?_;refine yD ty83 ?_ ?_;all_goals(first|exact zE hE|exact zE U)
def zaJ(a b:Tm):Fn prog 341 [tmA a,tmA b] (.tup [tmA (divV a b),iv (divE a b)]):=by
 refine kC func341 ntmps341 (λg w d=>?_);refine gc (zW a b) ?_;refine gd ?_ ?_<;>intro Z
 ·have hE:divE a b=yK [a,b]:=by unfold divE;rw[j3 Z]
  have U:divV a b=tmZ:=by unfold divV;rw[j3 Z]
  refine gq ?_;refine yD ty83 ?_ ?_;all_goals(first|exact zE hE|exact zE U)
 have T:=zch Z;have b1:=zap T.1;have b2:=zap T.2;refine gd ?_ ?_<;>intro V
 ·have hE:divE a b=5:=by unfold divE;rw[j4 Z,j4 V]
  have U:divV a b=tmZ:=by unfold divV;rw[j4 Z,j4 V]
  refine gq ?_;refine yD ty83 ?_ ?_;all_goals(first|exact zE hE|exact zE U)
 have hE:divE a b=tmsE a.N a.D b.D b.N:=by unfold divE;rw[j4 Z,j3 V]
 have U:divV a b=tmsV a.N a.D b.D b.N:=by unfold divV;rw[j4 Z,j3 V]
 have hr:=zwg (a:=a.N) (b:=a.D) (c:=b.D) (d:=b.N) b1.1 b1.2.2.2.2.1 (by omega) (by omega) b1.2.2.2.2.2 (by have Q:=b2.2.2.2.2.2;unfold gI at*;rw[Nat.gcd_comm];exact Q);rw[←hr.1]at hE;rw[←hr.2]at U;refine gc (zcF a.N a.D b.D b.N b1.1 b1.2.1 b1.2.2.2.2.1 (by omega) (by omega) (by omega) (by omega) (by omega)) ?_;refine yD ty83 ?_ ?_;all_goals(first|exact zE hE|exact zE U)
end
section
attribute [local irreducible] Pur yA yC Ex X Fn Imp LeV LeB FnO It yH
def zht(m:Mn)(k:Int):k∈perfL m↔(1<=k/\k<=4/\m.p k=3):=by
 unfold perfL;simp only[wL,w6,List.not_mem_nil,or_false,w9];constructor
 ·rintro⟨V,Z⟩;exact⟨by omega,by omega,Z⟩
 ·rintro⟨V,Z,U⟩;exact⟨by omega,U⟩
def zml(x:Ite){j:Nat}{t:Tm}(h:(itT x)[j]? =some t):(([iv x.Dur.N,iv x.Dur.D,iv x.Before.N,iv x.Before.D,iv x.After.N,iv x.After.D]:List AV).drop ((j:Int).toNat*2)).take 2=tmE t:=by
 have Z:j<3:=(j1.1 h).1;have:j=0\/j=1\/j=2:=by omega
 rcases this with rfl|rfl|rfl<;>(injection h with h;subst h;rfl)
attribute [local irreducible] ckT yK perfL
set_option maxHeartbeats 1000000 in
def zfU(l:List Ite)(hl:l.length<=4000000):Fn prog 191 [itsA l] (.tup [iv (ckIE l),iv (ckIX l 0)]):=by
 refine kC func191 ntmps191 (λg w d=>?_);apply ye;refine yL ?_;apply yf;apply ye;refine yq ?_;apply kA;refine zV (λk=>[(9,itsA l),(10,iv l.length),(11,iv (k:Int))]) (λk=>[]) (λk=>k<=l.length/\ckIE l=ckIE (l.drop k)/\ckIX l 0=ckIX (l.drop k) (k:Int)) l.length (λk H=>?_) (hJ:=by exact⟨by omega,rfl,rfl⟩) (h0:=yd);obtain⟨x4,Z,V⟩:=H;refine gd ?_ ?_<;>intro x3
 ·obtain⟨x,hx⟩:∃x,l[k]? =some x:=⟨_,lgg (by omega)⟩;have x2:l[(k:Int).toNat]? =some x:=by simpa using hx
  apply yl;apply yf;apply kA;apply ye;iterate 3 refine ya ?_
  refine zb ?_;refine ya ?_;refine kI ?_;apply kL;apply yf;apply ye;iterate 3 refine ya ?_
  refine kG 3 ?_;refine yn ?_;iterate 3 refine kF ?_
  iterate 2 refine yn ?_
  iterate 3 refine kF ?_
  iterate 2 refine yn ?_
  iterate 3 refine kF ?_
  refine gf ?_ ?_<;>intro x1
  ·have U:itF x=2:=by unfold itF;rw[j4 (by unfold itRg;omega)]
   have hE:ckIE l=2:=by rw[Z,zbu hx,U,j3 (by decide)]
   have hX:ckIX l 0=(k:Int):=by rw[V,zbv _ hx,U,j3 (by decide)]
   refine gq ?_;refine yh ?_ ?_;all_goals(first|exact zE hE|exact zE hX)
  have E:¬itRg x:=by unfold itRg;omega
  have hT:(itT x).length=3:=rfl;apply yl;apply yf;apply ye;iterate 7 refine ya ?_
  refine yi ?_;apply kA;refine zV (λj=>[(9,itsA l),(10,iv l.length),(11,iv (k:Int)),(4,iv (k:Int)),(5,.ptr 5 0 0 0),(41,.agg [iv x.Dur.N,iv x.Dur.D,iv x.Before.N,iv x.Before.D,iv x.After.N,iv x.After.D]),(42,iv (j:Int))]) (λj=>[(5,.box (itE x) 183)]) (λj=>j<=3/\yK (itT x)=yK ((itT x).drop j)) 3 (λj H=>?_) (hJ:=by exact⟨by omega,rfl⟩) (h0:=yd);obtain⟨x0,Q⟩:=H;refine gd ?_ ?_<;>intro w2
  ·obtain⟨t,ht⟩:∃t,(itT x)[j]? =some t:=⟨_,lgg (show j<(itT x).length by simp;omega)⟩;have xT:=zml x ht;have v9:(itT x)[(j:Int).toNat]? =some t:=by simpa using ht
   apply yl;apply yf;apply kA;apply ye;refine ya (hs:=by exact zF ArK.h TyK.h rfl rfl (by omega) (by omega) xT) ?_;refine gc (zcN t) ?_;refine gd ?_ ?_<;>intro T
   ·have hf:yK (itT x)=ckT t:=by rw[Q,zbx ht,j3 T]
    have U:itF x=ckT t:=by unfold itF;rw[j3 E,hf,j3 T]
    have hE:ckIE l=ckT t:=by rw[Z,zbu hx,U,j3 T]
    have hX:ckIX l 0=(k:Int):=by rw[V,zbv _ hx,U,j3 T]
    refine gq ?_;refine yh ?_ ?_;all_goals(first|exact zE hE|exact zE hX)
   refine gq ?_;refine yo (j+1) (hJ:=by exact⟨by omega,by rw[Q,zbx ht,j4 T]⟩)
  ·have hf:yK (itT x)=0:=by rw[Q,wB (by simp;omega)];unfold yK;rfl
   apply kK;apply ye;(iterate 2 refine ya ?_);refine kG 2 ?_;refine yn ?_;(iterate 2 refine kF ?_);(iterate 2 refine yn ?_);(iterate 11 refine kF ?_);refine gf ?_ ?_<;>intro J
   ·have U:itF x=8:=by unfold itF;rw[j3 E,j4 hf,j4 (by unfold itKd;revert J;cases x.Rest<;>cases x.Color<;>cases x.Fixed<;>simp)]
    have hE:ckIE l=8:=by rw[Z,zbu hx,U,j3 (by decide)]
    have hX:ckIX l 0=(k:Int):=by rw[V,zbv _ hx,U,j3 (by decide)]
    refine gq ?_;refine yh ?_ ?_;all_goals(first|exact zE hE|exact zE hX)
   have U:itF x=0:=by unfold itF;rw[j3 E,j4 hf,j3 (by unfold itKd;revert J;cases x.Rest<;>cases x.Color<;>cases x.Fixed<;>simp)]
   refine gq ?_;refine yo (k+1) (hJ:=by exact⟨by omega,by rw[Z,zbu hx,j4 U],by rw[V,zbv _ hx,j4 U];rfl⟩)
 ·have I:k=l.length:=by omega
  have hE:ckIE l=0:=by rw[Z,I,wO];rfl
  have hX:ckIX l 0=0:=by rw[V,I,wO];rfl
  refine gq ?_;refine yh ?_ ?_;all_goals(first|exact zE hE|exact zE hX)
set_option maxHeartbeats 1000000 in
def zcC(l:List Ite)(hl:l.length<=4000000):Fn prog 243 [itsA l] (.tup [iv (ckIE l),iv (ckIX l 0)]):=by
 refine kC func243 ntmps243 (λg w d=>?_);apply ye;refine yL ?_;apply yf;apply ye;refine yi ?_;apply kA;refine zV (λk=>[(0,itsA l),(4,iv (k:Int))]) (λk=>[]) (λk=>k<=l.length/\ckIE l=ckIE (l.drop k)/\ckIX l 0=ckIX (l.drop k) (k:Int)) l.length (λk I=>?_) (hJ:=by exact⟨by omega,rfl,rfl⟩) (h0:=yd);obtain⟨E,Z,V⟩:=I;refine gd ?_ ?_<;>intro xT
 ·obtain⟨x,hx⟩:∃x,l[k]? =some x:=⟨_,lgg (by omega)⟩;have x4:l[(k:Int).toNat]? =some x:=by simpa using hx
  apply yl;apply yf;apply kA;apply ye;iterate 4 refine ya ?_
  refine zb ?_;refine kI ?_;apply kL;apply yf;apply ye;iterate 3 refine ya ?_
  refine kG 3 ?_;refine yn ?_;iterate 3 refine kF ?_
  iterate 2 refine yn ?_
  iterate 3 refine kF ?_
  iterate 2 refine yn ?_
  iterate 3 refine kF ?_
  refine gf ?_ ?_<;>intro x3
  ·have U:itF x=2:=by unfold itF;rw[j4 (by unfold itRg;omega)]
   have hE:ckIE l=2:=by rw[Z,zbu hx,U,j3 (by decide)]
   have hX:ckIX l 0=(k:Int):=by rw[V,zbv _ hx,U,j3 (by decide)]
   refine gq ?_;refine yh ?_ ?_;all_goals(first|exact zE hE|exact zE hX)
  have H:¬itRg x:=by unfold itRg;omega
  have hT:(itT x).length=3:=rfl;refine gq ?_;refine kS (yF (enc:=tmE) (l:=[x.Dur,x.Before,x.After]) sl50 ty83 ze83 (by decide) rfl rfl rfl rfl (by decide) (by decide) (λ_=>rfl) rfl) rfl rfl ?_;refine yi ?_;apply yf;apply ye;refine yi ?_;apply kA;refine zV (λj=>[(0,itsA l),(4,iv (k:Int)),(5,.ptr 5 0 0 0),(6,tmsA (itT x)),(7,iv (j:Int))]) (λj=>[(5,.box (itE x) 183)]) (λj=>j<=3/\yK (itT x)=yK ((itT x).drop j)) 3 (λj I=>?_) (hJ:=by exact⟨by omega,rfl⟩) (h0:=yd);obtain⟨x2,Q⟩:=I;refine gd ?_ ?_<;>intro x1
  ·obtain⟨t,ht⟩:∃t,(itT x)[j]? =some t:=⟨_,lgg (show j<(itT x).length by simp;omega)⟩;have x0:=zml x ht;have w2:(itT x)[(j:Int).toNat]? =some t:=by simpa using ht
   refine gc (zQ t) ?_;refine gd ?_ ?_<;>intro T
   ·have hf:yK (itT x)=ckT t:=by rw[Q,zbx ht,j3 T]
    have U:itF x=ckT t:=by unfold itF;rw[j3 H,hf,j3 T]
    have hE:ckIE l=ckT t:=by rw[Z,zbu hx,U,j3 T]
    have hX:ckIX l 0=(k:Int):=by rw[V,zbv _ hx,U,j3 T]
    refine gq ?_;refine yh ?_ ?_;all_goals(first|exact zE hE|exact zE hX)
   refine gq ?_;refine yo (j+1) (hJ:=by exact⟨by omega,by rw[Q,zbx ht,j4 T]⟩)
  ·have hf:yK (itT x)=0:=by rw[Q,wB (by simp;omega)];unfold yK;rfl
   apply kK;apply ye;(iterate 2 refine ya ?_);refine kG 2 ?_;refine yn ?_;(iterate 2 refine kF ?_);(iterate 2 refine yn ?_);(iterate 11 refine kF ?_);refine gf ?_ ?_<;>intro N
   ·have U:itF x=8:=by unfold itF;rw[j3 H,j4 hf,j4 (by unfold itKd;revert N;cases x.Rest<;>cases x.Color<;>cases x.Fixed<;>simp)]
    have hE:ckIE l=8:=by rw[Z,zbu hx,U,j3 (by decide)]
    have hX:ckIX l 0=(k:Int):=by rw[V,zbv _ hx,U,j3 (by decide)]
    refine gq ?_;refine yh ?_ ?_;all_goals(first|exact zE hE|exact zE hX)
   have U:itF x=0:=by unfold itF;rw[j3 H,j4 hf,j3 (by unfold itKd;revert N;cases x.Rest<;>cases x.Color<;>cases x.Fixed<;>simp)]
   refine gq ?_;refine yo (k+1) (hJ:=by exact⟨by omega,by rw[Z,zbu hx,j4 U],by rw[V,zbv _ hx,j4 U];rfl⟩)
 ·have J:k=l.length:=by omega
  have hE:ckIE l=0:=by rw[Z,J,wO];rfl
  have hX:ckIX l 0=0:=by rw[V,J,wO];rfl
  refine gq ?_;refine yh ?_ ?_;all_goals(first|exact zE hE|exact zE hX)
def zgL(m:Mn)(k:Int)(h0:-9223372036854775808<=k)(N:k<=9223372036854775807):Fn prog 327 [mnA m,iv k] (.tup [tmA (unT m k),iv (unE m k)]):=by
 refine kC func327 ntmps327 (λg w d=>?_);refine gc (zdG m) ?_;refine gd ?_ ?_<;>intro T
 ·have U:unE m k=ckM m:=by unfold unE;rw[j3 T]
  have Q:unT m k=tmZ:=by unfold unT;rw[j3 (by rw[U];exact T)]
  refine gq ?_;refine yD ty83 ?_ ?_;all_goals(first|exact zE U|exact zE Q)
 have Z:ckM m=0:=T;refine gc (yT (if ckM m=0 then perfL m else[]) k (by have:=zkk m;split<;>simp<;>omega)) ?_;refine gd ?_ ?_<;>intro V
 ·rw[j4 Z]at V;have U:unE m k=2:=by unfold unE;rw[j4 Z,j3 (λh=>absurd ((zht m k).2 h) (by simpa using V))]
  have Q:unT m k=tmZ:=by unfold unT;rw[j3 (by rw[U];decide)]
  refine gq ?_;refine yD ty83 ?_ ?_;all_goals(first|exact zE U|exact zE Q)
 rw[j4 Z]at V;have hm:=(zht m k).1 (by simpa using V);have U:unE m k=0:=by unfold unE;rw[j4 Z,j4 hm]
 have Q:unT m k=yy m (k+1):=by unfold unT;rw[j4 U]
 refine gc (zaW (v:=k+1) Z (by omega) (by omega)) ?_;refine yD ty83 ?_ ?_;all_goals(first|exact zE U|exact zE Q)
def zc0(m:Mn)(k:Int):Fn prog 320 [mnA m,iv k] (.tup [tmA (unT m k),iv (unE m k)]):=by
 refine kC func320 ntmps320 (λg w d=>?_);refine gc (zk m) ?_;refine gd ?_ ?_<;>intro V
 ·have Z:unE m k=ckM m:=by unfold unE;rw[j3 V]
  have T:unT m k=tmZ:=by unfold unT;rw[j3 (by rw[Z];exact V)]
  refine gq ?_;refine yD ty83 ?_ ?_;all_goals(first|exact zE Z|exact zE T)
 have U:ckM m=0:=V;apply yl;apply yf;apply ye;iterate 2 refine ya ?_
 refine kG 2 ?_;refine gq ?_;refine kQ (y4 m k) ?_;refine kF ?_;refine gf ?_ ?_<;>intro Q
 ·have Z:unE m k=2:=by unfold unE;rw[j4 U,j3 (by omega)]
  have T:unT m k=tmZ:=by unfold unT;rw[j3 (by rw[Z];decide)]
  refine gq ?_;refine yD ty83 ?_ ?_;all_goals(first|exact zE Z|exact zE T)
 have Z:unE m k=0:=by unfold unE;rw[j4 U,j4 (by omega)]
 have T:unT m k=yy m (k+1):=by unfold unT;rw[j4 Z]
 refine gc (zM (v:=k+1) U (by omega) (by omega)) ?_;refine yD ty83 ?_ ?_;all_goals(first|exact zE Z|exact zE T)
def zaK(l:List Ite)(b:Bd)(U:b.item<l.length):Fn prog 347 [.agg [itsA l],bdA b] (iv (hdI l b)):=by
 refine kC func347 ntmps347 (λg w d=>?_);apply ye;iterate 2 refine zZ ?_
 refine yi ?_;apply yf;apply ye;iterate 3 refine ya ?_
 refine kG 3 ?_;refine yn ?_;iterate 7 refine kF ?_
 refine gf ?_ ?_<;>intro Z
 ·have V:hdI l b=-1:=by unfold hdI;rw[j4 Z]
  refine gq ?_;all_goals rw[V]
 have V:hdI l b=b.item:=by unfold hdI;rw[j3 (by rintro(h|h);omega;(rw[Z.2]at h;cases h))]
 refine gq ?_;all_goals rw[V]
def zc1(l:List Ite)(b:Bd)(U:b.item<l.length):Fn prog 322 [itsA l,.agg [iv (bdF b),iv b.next,iv b.item]] (iv (hdI l b)):=by
 refine kC func322 ntmps322 (λg w d=>?_);apply ye;refine zZ ?_;refine yi ?_;apply yf;apply ye;iterate 3 refine ya ?_
 refine kG 3 ?_;refine yn ?_;iterate 7 refine kF ?_
 refine gf ?_ ?_<;>intro Z
 ·have V:hdI l b=b.item:=by unfold hdI;rw[j3 (by rintro(h|h);omega;(rw[Z.2]at h;cases h))]
  refine gq ?_;all_goals rw[V]
 have V:hdI l b=-1:=by unfold hdI;rw[j4 (by rcases Z with h|h;exact .inl (by omega);exact .inr h)]
 refine gq ?_;all_goals rw[V]
def zbj(a b:Tm):Fn prog 340 [tmA a,tmA b] (.tup [tmA (if lsE a b=0 then subV a b else tmZ),iv (lsE a b)]):=by
 refine kC func340 ntmps340 (λg w d=>?_);refine gc (zac a b) ?_;refine gd ?_ ?_<;>intro Z
 ·have hE:lsE a b=14:=by unfold lsE;rw[j4 Z]
  refine gq ?_;refine yD ty83 ?_ ?_;all_goals(first|exact zE hE|(rw[hE,V];done)|(rw[hE,V];rfl))
 have hE:lsE a b=subE a b:=by unfold lsE;rw[j3 Z]
 have V:(if subE a b=0 then subV a b else tmZ)=subV a b:=by
  split
  ·rfl
  ·rename_i h;unfold subV;unfold subE at h;split
   ·rename_i U;rw[j4 U]at h;unfold tmkT;rw[j3 h]
   ·rfl
 refine gq ?_;refine yD ty83 ?_ ?_;all_goals(first|exact zE hE|(rw[hE,V];done)|(rw[hE,V];rfl))
end
end Go.Rse
