/-
  Walks.
-/
import Derived.Test.YtbopkhoalndflaaGreatDoorYJLvl15
set_option linter.all false
namespace Go.Rse
open Go Go.Proofs Go.Proofs.Tryz
section
attribute [local irreducible] Pur yA yC Ex X Fn Imp LeV LeB FnO It yH
def zjM{α:Type}{a b:List α}{k:Nat}{x:α}(Z:a[k]? =some x)(V:b[k]? =some x)(h:a.take k=b.take k):a.take (k+1)=b.take (k+1):=by
 rw[jF,jF,Z,V,h]
def znw{α:Type}{a b:List α}{k:Nat}(hl:a.length=b.length)(Z:a.length<=k)(h:a.take k=b.take k):a=b:=by
 rwa[jY Z,jY (by omega)]at h
def zus{α:Type}{a b:List α}{k:Nat}{x y:α}(V:a[k]? =some x)(Z:b[k]? =some y)(h:x≠y):a≠b:=λe=>by
 subst e;rw[V]at Z;injection Z with Z;exact h Z
def zpA:Sg:=⟨3,0,0,0,false,0,false,false,⟨0,0,0,0⟩,false,0,0,0,0⟩
def zpB{a n:Int}(Z:0<n):(a.tmod n<0->a.tmod n+n=a%n)/\(¬a.tmod n<0->a.tmod n=a%n)/\-n<a.tmod n/\a.tmod n<n:=by
 rw[Int.tmod_eq_emod];have h0:=uH a (show n≠0 by omega);have V:=wW a Z;split<;>omega
def mMk(n:Int):Mn:=⟨2+n%16/8,2+n%16/4%2,2+n%16/2%2,2+n%16%2⟩
def zvy(n:Int):ckM (mMk n)=0:=by
 unfold ckM;rw[j3];unfold Mn.Ok two3 mMk;exact⟨by show 2+n%16/8=2\/2+n%16/8=3;omega,by show 2+n%16/4%2=2\/2+n%16/4%2=3;omega,by show 2+n%16/2%2=2\/2+n%16/2%2=3;omega,by show 2+n%16%2=2\/2+n%16%2=3;omega⟩
def zrR{l:List Int}{x:Int}(h:∀(i:Nat)u,i<l.length->l[i]? =some u->¬u=x):¬x∈l:=λhx=>by
 obtain⟨i,hi⟩:=jP.1 hx;exact h i x (j1.1 hi).1 hi rfl
attribute [local irreducible] gI mMk
def zea(a b:List Tm)(hl:a.length<=4000000000):Fn prog 31 [tmsA a,tmsA b] (.bool (decide (a=b))):=by
 refine kF func31 ntmps31 (λg w d=>?_);refine gd ?_ ?_<;>intro T
 ·refine gq ?_;all_goals(congr 1;exact(jC λe=>by subst e;omega).symm)
 apply yk;apply yf;apply ye;refine yh ?_;apply kB;refine zM (λk=>[(0,tmsA a),(1,tmsA b),(5,iv (k:Int))]) (λk=>[]) (λk=>k<=a.length/\a.take k=b.take k) a.length (λk Q=>?_) (hJ:=by exact⟨by omega,rfl⟩) (h0:=yd);obtain⟨N,V⟩:=Q;refine gd ?_ ?_<;>intro J
 ·obtain⟨x,hx⟩:∃x,a[k]? =some x:=⟨_,lgg (by omega)⟩;have I:a[(k:Int).toNat]? =some x:=by simpa using hx
  obtain⟨y,U⟩:∃y,b[k]? =some y:=⟨_,lgg (by omega)⟩;have H:b[(k:Int).toNat]? =some y:=by simpa using U
  refine gq ?_;refine yW [17,18,19,20,21,22,23,24,25] [0,0,3,7,0,0,48,112,255] mo ?_;iterate 9 refine yb ?_
  refine yF ?_;refine gd ?_ ?_<;>intro Z
  ·refine gq ?_;all_goals(congr 1;exact(jC (zus hx U (by simpa using Z))).symm)
  refine gq ?_;refine yz (k+1) (hJ:=by exact⟨by omega,zjM hx (by rw[U];congr 1;first|exact(by simpa using Z:x=y).symm|(simp at Z;exact Z.symm)) V⟩)
 ·refine gq ?_;all_goals(congr 1;exact(jJ (znw (by omega) (by omega) V)).symm)
def zY(a b:List Sg)(hl:a.length<=4000000000):Fn prog 23 [sgsA a,sgsA b] (.bool (decide (a=b))):=by
 refine kF func23 ntmps23 (λg w d=>?_);refine gd ?_ ?_<;>intro T
 ·refine gq ?_;all_goals(congr 1;exact(jC λe=>by subst e;omega).symm)
 apply yk;apply yf;apply ye;refine yh ?_;apply kB;refine zM (λk=>[(0,sgsA a),(1,sgsA b),(5,iv (k:Int))]) (λk=>[]) (λk=>k<=a.length/\a.take k=b.take k) a.length (λk Q=>?_) (hJ:=by exact⟨by omega,rfl⟩) (h0:=yd);obtain⟨N,V⟩:=Q;refine gd ?_ ?_<;>intro J
 ·obtain⟨x,hx⟩:∃x,a[k]? =some x:=⟨_,lgg (by omega)⟩;have I:a[(k:Int).toNat]? =some x:=by simpa using hx
  obtain⟨y,U⟩:∃y,b[k]? =some y:=⟨_,lgg (by omega)⟩;have H:b[(k:Int).toNat]? =some y:=by simpa using U
  refine gq ?_;refine yW [17,18,19,20,21,22,23,24,25] [0,0,3,7,0,0,48,112,255] mo ?_;iterate 9 refine yb ?_
  refine yF ?_;refine gd ?_ ?_<;>intro Z
  ·refine gq ?_;all_goals(congr 1;exact(jC (zus hx U (by simpa using Z))).symm)
  refine gq ?_;refine yz (k+1) (hJ:=by exact⟨by omega,zjM hx (by rw[U];congr 1;first|exact(by simpa using Z:x=y).symm|(simp at Z;exact Z.symm)) V⟩)
 ·refine gq ?_;all_goals(congr 1;exact(jJ (znw (by omega) (by omega) V)).symm)
def zcd(a n:Int)(J:-9223372036854775808<=a/\a<=9223372036854775807)(I:1<=n/\n<=4611686018427387904):Fn prog 90 [iv a,iv n] (iv (a%n)):=by
 obtain⟨Z,V,U,T⟩:=zpB (a:=a) (n:=n) (by omega);refine kF func90 ntmps90 (λg w d=>?_);refine gd ?_ ?_<;>intro Q
 ·omega
 apply yk;apply ye;iterate 2 refine ya ?_
 refine zz (zu8 rfl rfl (by omega)) rfl ?_;refine gd ?_ ?_<;>intro N
 ·refine gq ?_;all_goals(congr 1;exact Z (by omega))
 ·refine gq ?_;all_goals(congr 1;exact V (by omega))
def zg1(n:Int)(Z:-9223372036854775808<=n/\n<=9223372036854775807):Fn prog 27 [iv n] (mnA (mMk n)):=by
 unfold mMk;refine kF func27 ntmps27 (λg w d=>?_);refine gc (zcd n 16 Z (by omega)) ?_;refine kL (.one (.cellA rfl rfl rfl rfl ty23 (kC ?_)));all_goals exact zR
def zgm(m:Mn)(v:Int):Fn prog 181 [mnA m,iv v] (iv (m.p v)):=by
 refine kF func181 ntmps181 (λg w d=>?_);refine gd ?_ ?_<;>intro Z
 ·refine gq ?_;all_goals(congr 1;unfold Mn.p;simp[*])
 refine gd ?_ ?_<;>intro V
 ·refine gq ?_;all_goals(congr 1;unfold Mn.p;simp[*])
 refine gd ?_ ?_<;>intro U
 ·refine gq ?_;all_goals(congr 1;unfold Mn.p;simp[*])
 refine gd ?_ ?_<;>intro T
 ·refine gq ?_;all_goals(congr 1;unfold Mn.p;simp[*])
 refine gq ?_;all_goals(congr 1;unfold Mn.p;simp[*])
def zfx(n q:Int)(N:0<=n/\n<=4611686018427387904)(J:1<=q/\q<=4611686018427387904):Fn prog 88 [iv n,iv q] (tmA ⟨n/gI n q,q/gI n q⟩):=by
 refine kF func88 ntmps88 (λg w d=>?_);refine gq ?_;refine zd3 (ι:=Int×Int) (λ(p:Int×Int)=>[(0,iv n),(1,iv q),(4,.ptr 4 0 0 0),(5,iv p.1),(6,iv p.2)]) (λ(p:Int×Int)=>[(4,.box [iv 0,iv 0] 83)]) (λ(p:Int×Int)=>0<=p.1/\0<=p.2/\gI p.1 p.2=gI n q/\(0<p.1\/0<p.2)) (λ(p:Int×Int)=>p.2.toNat) (n,q) (λp V=>?_) (hJ:=by exact⟨by dsimp only;omega,by dsimp only;omega,rfl,by dsimp only;omega⟩);obtain⟨a,b⟩:=p;obtain⟨k1,k2,k3,k4⟩:=V;dsimp only at*
 refine gd ?_ ?_<;>intro U
 ·refine gq ?_;refine yz ((b,a%b)) (hJ:=by exact⟨by dsimp only;omega,by dsimp only;exact uH _ (by omega),by dsimp only;rw[zk2 (by omega) (by omega)];exact k3,by dsimp only;omega⟩) (hm:=by dsimp only;have:=wW a (show 0<b by omega);omega)
 ·have Z:b=0:=by omega
  subst Z;rw[zk1 k1]at k3;subst k3;have T:=zcf (n:=n) (d:=q) (by omega);refine gd ?_ ?_<;>intro Q
  ·omega
  refine gq ?_;refine yW [20,21,22,23,24,25] [0,0,3,0,0,24,63,127] mo ?_;iterate 6 refine yb ?_
  refine yF ?_;refine gq ?_;refine kL (.one (.cellA rfl rfl rfl rfl ty83 (kC ?_)));all_goals rfl
end
section
def abvK(m:Mn)(v:Int):Bool:=(decide (1<v)&&decide (m.p 1=3))||(decide (2<v)&&decide (m.p 2=3))||(decide (3<v)&&decide (m.p 3=3))||(decide (4<v)&&decide (m.p 4=3))
def zpC{m:Mn}{v k:Int}(Z:1<=k)(V:k<v)(U:m.p k=3):abvK m v=true:=by
 grind[zqL,abvK]
def zrS{m:Mn}{v:Int}(h:∀k,1<=k->k<v->¬m.p k=3):abvK m v=false:=by
 simp_all[abvK]
end
section
def stp(p n:Int):Int:=if p+n%5-2< -4\/12<p+n%5-2 then 4 else p+n%5-2
def zrT{p n:Int}(h:p+n%5-2< -4\/12<p+n%5-2):4=stp p n:=by unfold stp;rw[j3 h]
def zvz{p n:Int}(h:¬(p+n%5-2< -4\/12<p+n%5-2)):p+n%5-2=stp p n:=by unfold stp;rw[j4 h]
def roA(n:Int):Int:=([0,0,0,0,-1,1,2]:List Int).getD (n/5%7).toNat 0
def zrU(n:Int):([0,0,0,0,-1,1,2]:List Int)[(n/5%7).toNat]? =some (roA n):=by
 grind[roA]
def rsS(v:Int):Sg:=⟨2,v,0,0,false,0,false,false,⟨0,0,0,0⟩,false,0,0,0,0⟩
def ntS(v p n:Int):Sg:=⟨1,v,p,roA n,decide (n/35%6=0),0,false,false,⟨0,0,0,0⟩,false,0,0,0,0⟩
structure Mk where
 l:List Sg
 p:Int
 d:Bool
def roS(m:Mn)(s:Mk)(x:Int):Mk:=
 if x%8=0 then⟨s.l++[rsS (2+x/8%6)],s.p,abvK m (2+x/8%6)⟩
 else if x%8<3/\s.d=true then⟨s.l++[zpA],s.p,false⟩
 else⟨s.l++[ntS (2+x/8%6) (stp s.p (x/48)) (x/48)],stp s.p (x/48),true⟩
def roK(m:Mn)(nums:List Int)(most:Int):Nat->Mk
 |0=>⟨[],4,false⟩
 |k+1=>match nums[k]? with
  |some x=>if((roK m nums most k).l.length:Int)<most then roS m (roK m nums most k) (x%1048576)else roK m nums most k
  |none=>roK m nums most k
def roL(m:Mn)(nums:List Int)(most:Int):List Sg:=(roK m nums most nums.length).l
def zpD{m:Mn}{nums:List Int}{most:Int}{k:Nat}{x:Int}(hx:nums[k]? =some x)(h:((roK m nums most k).l.length:Int)<most):roK m nums most (k+1)=roS m (roK m nums most k) (x%1048576):=by
 simp_all[roK]
def zlL{m:Mn}{nums:List Int}{most:Int}{k:Nat}(h:most<=((roK m nums most k).l.length:Int)):∀d,roK m nums most (k+d)=roK m nums most k
 |0=>rfl
 |d+1=>by
  show roK m nums most ((k+d)+1)=_;have ih:=zlL h d
  grind[roK]
def zvA{m:Mn}{nums:List Int}{most:Int}{k:Nat}(U:k<=nums.length)(h:¬((k:Int)<nums.length/\((roK m nums most k).l.length:Int)<most)):(roK m nums most k).l=roL m nums most:=by
 unfold roL;by_cases V:(k:Int)<nums.length
 ·have:most<=((roK m nums most k).l.length:Int):=by
   rcases Int.lt_or_le ((roK m nums most k).l.length:Int) most with Z|Z
   ·exact absurd ⟨V,Z⟩ h
   ·exact Z
  rw[show nums.length=k+(nums.length-k)by omega,zlL this]
 grind
theorem zrV(m:Mn)(s:Mk)(x:Int):(roS m s x).l.length=s.l.length+1:=by
 grind[roS]
def zkv(m:Mn)(nums:List Int){most:Int}(h0:0<=most):∀k,((roK m nums most k).l.length:Int)<=most
 |0=>h0
 |k+1=>by
  have:=zkv m nums h0 k
  grind[roK,zrV]
def zoU{m:Mn}{s:Mk}(x:Int)(h:-4<=s.p/\s.p<=12):-4<=(roS m s x).p/\(roS m s x).p<=12:=by
 unfold roS;split
 ·exact h
 grind[stp]
def zjN(m:Mn)(nums:List Int)(most:Int):∀k,-4<=(roK m nums most k).p/\(roK m nums most k).p<=12
 |0=>by simp[roK]
 |k+1=>by
  have ih:=zjN m nums most k;unfold roK;split
  ·split
   ·exact zoU _ ih
   ·exact ih
  ·exact ih
def zpE{m:Mn}{s:Mk}{x:Int}(h:x%8=0):roS m s x=⟨s.l++[rsS (2+x/8%6)],s.p,abvK m (2+x/8%6)⟩:=by unfold roS;rw[j3 h]
def zrW{m:Mn}{s:Mk}{x:Int}(h:¬x%8=0)(Z:x%8<3/\s.d=true):roS m s x=⟨s.l++[zpA],s.p,false⟩:=by simp_all[roS]
def zpF{m:Mn}{s:Mk}{x:Int}(h:¬x%8=0)(Z:¬(x%8<3/\s.d=true)):roS m s x=⟨s.l++[ntS (2+x/8%6) (stp s.p (x/48)) (x/48)],stp s.p (x/48),true⟩:=by simp_all[roS]
end
section
def zrX{m:Mn}{l:List Sg}(V:ckM m=0)(Z:ckD m l=0):mkE m l (zl m l)=0:=by
 unfold mkE;rw[j3 Z,j3 (zxQ (zsf V Z))]
def zrY{m:Mn}{l:List Sg}(Z:ckD m l=0):duE m l (twos (prL m l).length)=0:=by
 unfold duE;rw[j3 Z,j3 ⟨zcK _,by unfold mnOk twos;rw[jB];intro x hx;rw[(List.mem_replicate.1 hx).2];rfl⟩]
end
section
attribute [local irreducible] Pur yA yC Ex X Fn Imp LeV LeB FnO It yH
attribute [local irreducible] mkC mkA mkE duV duE itK itOf ckD mulV mulE
set_option maxHeartbeats 4000000 in
def zkw(m:Mn)(l:List Sg)(ch mi:List Int)(hl:l.length<=1000)(x0:mi.length<=1000):Fn prog 138 [mnA m,sgsA l,yc ch,yc mi] (.tup [itsA (itmV m l ch mi),iv (itmE m l ch mi)]):=by
 refine kF func138 ntmps138 (λg w d=>?_);refine gc (zb5 m l hl) ?_;refine gd ?_ ?_<;>intro J
 ·have hE:itmE m l ch mi=ckD m l:=by rw[zmH (by rw[zmG J];exact J),zmG J]
  have H:itmV m l ch mi=[]:=zii (by rw[hE];exact J);apply ye;refine yE ?_;refine kE ?_;refine kA (yd (ts:=[(8,itsA []),(9,iv (ckD m l))]) (hs:=[])) ?_;refine ym ?_ ?_;all_goals(first|exact zE H|exact zE hE)
 refine gc (zlw m l hl ch) ?_;refine gd ?_ ?_<;>intro U
 ·have hE:itmE m l ch mi=mkE m l ch:=zmH U;have H:itmV m l ch mi=[]:=zii (by rw[hE];exact U);apply ye;refine yE ?_;refine kE ?_;refine kA (yd (ts:=[(8,itsA []),(9,iv (mkE m l ch))]) (hs:=[])) ?_;refine ym ?_ ?_;all_goals(first|exact zE H|exact zE hE)
 refine gc (zkr m l mi hl x0) ?_;refine gd ?_ ?_<;>intro G
 ·have hE:itmE m l ch mi=duE m l mi:=zkt U;have H:itmV m l ch mi=[]:=zii (by rw[hE];exact G);apply ye;refine yE ?_;refine kE ?_;refine kA (yd (ts:=[(8,itsA []),(9,iv (duE m l mi))]) (hs:=[])) ?_;refine ym ?_ ?_;all_goals(first|exact zE H|exact zE hE)
 have hE:itmE m l ch mi=0:=(zkt U).trans G;have H:=zmI hE;apply yk;apply ye;refine yh ?_;iterate 2 apply yf
 refine kJ (yI itE 183 12 15 201 rfl rfl) ?_;apply yj;refine yE ?_;apply kB;have v4:=zul l (mkC m l ch) (mkA m l ch) (duV m l mi);refine zu (λk=>[(11,yc (mkC m l ch)),(12,zaP (mkA m l ch)),(14,tmsA (duV m l mi)),(15,.own 201),(47,sgsA l),(48,iv l.length),(49,iv (k:Int))]) (λk=>[(201,.row itE (itK l (mkC m l ch) (mkA m l ch) (duV m l mi) k) 183 12)]) l.length (λk hk=>?_) (h0:=yd);refine gd ?_ ?_<;>intro v3
 ·obtain⟨s,hs⟩:∃s,l[k]? =some s:=⟨_,lgg (by omega)⟩;have v0:l[(k:Int).toNat]? =some s:=by simpa using hs
  have E:=zih l (mkC m l ch) (mkA m l ch) (duV m l mi) k;have u4:=zks l k;refine gd ?_ ?_<;>intro xT
  ·have V:=znr (c:=mkC m l ch) (a:=mkA m l ch) (d:=duV m l mi) hs xT;refine gq ?_;refine yz (k+1)
  obtain⟨x,y,z,hx,hy,hz,x3,u3,hm,v1,v8⟩:=zun U G hs xT;have V:=zpr hs xT hx hy hz;have u2:(mkC m l ch)[((itK l (mkC m l ch) (mkA m l ch) (duV m l mi) k).length:Int).toNat]? =some x:=by rw[E];simpa using hx
  have u1:(mkA m l ch)[((itK l (mkC m l ch) (mkA m l ch) (duV m l mi) k).length:Int).toNat]? =some y:=by rw[E];simpa using hy
  have k5:(duV m l mi)[((itK l (mkC m l ch) (mkA m l ch) (duV m l mi) k).length:Int).toNat]? =some z:=by rw[E];simpa using hz
  apply yk;apply ye;refine yE ?_;refine zb1 ⟨[(11,yc (mkC m l ch)),(12,zaP (mkA m l ch)),(14,tmsA (duV m l mi)),(15,.own 201),(18,iv ((itK l (mkC m l ch) (mkA m l ch) (duV m l mi) k).length:Int)),(19,.ptr 19 0 0 0),(47,sgsA l),(48,iv l.length),(49,iv (k:Int))],[(201,.row itE (itK l (mkC m l ch) (mkA m l ch) (duV m l mi) k) 183 12),(19,.box [iv k,iv s.Value,.bool (decide (s.Kind=2)),.bool (decide (s.Kind=1)&&s.Color),.bool false,iv x,iv z.N,iv z.D,iv 0,iv 0,iv 0,iv 0] 183)]⟩ (λx2=>?_) ?_
  ·refine yW [19,59,60,61,62,63,64,65,66,67,68,69,70,71,72,73,74,75,76,77,78,79,80] [0,0,2,0,8,24,0,64,192,448,960,1984,4032,0,0,24576,57344,0,0,393216,917504,2097151,0,8388607] mo ?_;(iterate 10 refine yb ?_);(iterate 2 refine kM ?_);(iterate 10 refine yb ?_);refine ChM.step rfl rfl rfl (zx (k:=19) zgZ) rfl ?_;refine yF ?_;refine kK ?_;apply kQ;exact kJ yi x2
  refine zb1 ⟨[(11,yc (mkC m l ch)),(12,zaP (mkA m l ch)),(14,tmsA (duV m l mi)),(15,.own 201),(18,iv ((itK l (mkC m l ch) (mkA m l ch) (duV m l mi) k).length:Int)),(19,.ptr 19 0 0 0),(47,sgsA l),(48,iv l.length),(49,iv (k:Int))],[(201,.row itE (itK l (mkC m l ch) (mkA m l ch) (duV m l mi) k) 183 12),(19,.box [iv k,iv s.Value,.bool (decide (s.Kind=2)),.bool (decide (s.Kind=1)&&s.Color),.bool false,iv x,iv z.N,iv z.D,iv 0,iv 1,iv 0,iv 1] 183)]⟩ (λx1=>?_) ?_
  ·apply yj;(iterate 3 refine ya ?_);refine kK ?_;refine ya ?_;refine kK ?_;apply kQ;exact kJ yi x1
  refine gd ?_ ?_<;>intro T
  ·rw[←zxu T]at V;refine gc (zdX z ⟨3,2⟩) ?_;refine gd ?_ ?_<;>intro w2
   ·exact absurd x3 w2
   refine gq ?_;refine yD itE [itL k s true x (mulV z ⟨3,2⟩)] ?_;refine gq ?_;refine yz (k+1)
  refine gd ?_ ?_<;>intro x4
  ·refine gd ?_ ?_<;>intro v9
   ·rw[←zpu T (.inl x4)]at V;refine gq ?_;refine yD itE [itL k s true x z] ?_;refine gq ?_;refine yz (k+1)
   exact absurd x4 v9
  ·refine gd ?_ ?_<;>intro Q
   ·refine gd ?_ ?_<;>intro Z
    ·rw[←zpu T (.inr (.inl (by unfold clr;rw[jJ Z.1,Z.2];rfl)))]at V;refine gq ?_;refine yD itE [itL k s true x z] ?_;refine gq ?_;refine yz (k+1)
    exact absurd Z (λZ=>Z.elim (λh=>h Q.1) (λh=>by rw[Q.2]at h;cases h))
   ·refine gd ?_ ?_<;>intro I
    ·rw[←zpu T (.inr (.inr I))]at V;refine gq ?_;refine yD itE [itL k s true x z] ?_;refine gq ?_;refine yz (k+1)
    rw[←zxv T x4 (by unfold clr;rcases Q with h|h<;>simp[h]) I]at V;refine gq ?_;refine yD itE [itL k s false x z] ?_;refine gq ?_;refine yz (k+1)
 ·have v5:k=l.length:=by omega
  subst v5;apply kO;apply ye;refine yE ?_;refine kE ?_;refine kA (k9 (k:=201) rfl) ?_;refine ym ?_ ?_;all_goals(first|exact zE H|exact zE hE)
end
section
attribute [local irreducible] Pur yA yC Ex X Fn Imp LeV LeB FnO It yH
def zg2(l:List Int)(x:Int)(hl:l.length<=4000000000):Fn prog 284 [yc l,iv x] (.bool (decide (x∈l))):=by
 refine kF func284 ntmps284 (λg w d=>?_);apply ye;refine yh ?_;apply yf;apply ye;refine yh ?_;apply kB;refine zM (λk=>[(0,yc l),(1,iv x),(5,iv (k:Int))]) (λk=>[]) (λk=>k<=l.length/\∀(i:Nat)u,i<k->l[i]? =some u->¬u=x) l.length (λk T=>?_) (hJ:=by exact⟨by omega,λi u h=>absurd h (wT i)⟩) (h0:=yd);obtain⟨Q,Z⟩:=T;refine gd ?_ ?_<;>intro N
 ·obtain⟨v,hv⟩:∃v,l[k]? =some v:=⟨_,lgg (by omega)⟩;have J:l[(k:Int).toNat]? =some v:=by simpa using hv
  refine gd ?_ ?_<;>intro V
  ·refine gq ?_;all_goals(congr 1;exact(jJ (by rw[←V];exact j6 hv)).symm)
  refine gq ?_
  refine yz (k+1) (hJ:=by
   refine⟨by omega,λi u hi U=>?_⟩;rcases w6.1 hi with h|h
   ·exact Z i u h U
   ·subst h;rw[hv]at U;injection U with U;subst U;exact V)
 ·refine gq ?_;all_goals(congr 1;exact(jC (zrR λi u hi=>Z i u (by omega))).symm)
set_option maxHeartbeats 4000000 in
def zfl(m:Mn)(l:List Sg)(hl:l.length<=1000)(ch:List Int)(v5:ch.length<=4000000):Fn prog 239 [mnA m,sgsA l,yc ch] (.tup [yc (mkC m l ch),zaP (mkA m l ch),iv (mkE m l ch)]):=by
 obtain⟨L0,hX,hM⟩:∃L0,(ckD m l=0->L0=mnsD m l)/\Fn prog 283 [mnA m,sgsA l] (.tup [zc6 L0,iv (ckD m l)]):=⟨_,λh=>j3 h,C_tactusref09_Meanings' m l hl⟩;refine kF func239 ntmps239 (λg w d=>?_);refine gc hM ?_;refine gd ?_ ?_<;>intro Z
 ·have hE:mkE m l ch=ckD m l:=by unfold mkE;rw[j4 Z]
  have U:mkC m l ch=[]:=by unfold mkC;rw[j4 (by rw[hE];exact Z)]
  have T:mkA m l ch=[]:=by unfold mkA;rw[j4 (by rw[hE];exact Z)]
  apply ye;refine ya ?_;refine yE ?_;refine kE ?_;refine kA (yd (ts:=[(6,yc []),(7,zaP []),(8,iv (ckD m l))]) (hs:=[])) ?_;refine kL (.many (by decide) (.cons (.tmp rfl (kC ?_)) (.cons (.tmp rfl (kC ?_)) (.cons (.tmp rfl (kC ?_)) .nil))));all_goals(first|exact zE U|exact zE T|exact zE hE)
 have xT:=hX Z;subst xT;have v4:=zgg m l;have J:=zif Z;have v3:(mnsD m l).length=(yV l l.length).length:=by simp[mnsD]
 refine gd ?_ ?_<;>intro v0
 ·have hE:mkE m l ch=2:=by unfold mkE;rw[j3 Z,j4 (λh=>by have:=h.1;omega)]
  have U:mkC m l ch=[]:=by unfold mkC;rw[j4 (by omega)]
  have T:mkA m l ch=[]:=by unfold mkA;rw[j4 (by omega)]
  apply ye;refine yE ?_;refine kE ?_;refine kA (yd (ts:=[(6,yc []),(7,zaP []),(8,iv 2)]) (hs:=[])) ?_;refine kL (.many (by decide) (.cons (.tmp rfl (kC ?_)) (.cons (.tmp rfl (kC ?_)) (.cons (.tmp rfl (kC ?_)) .nil))));all_goals(first|exact zE U|exact zE T|exact zE hE)
 apply yk;apply yf;apply ye;refine yh ?_;apply kB;refine zM (λk=>[(1,sgsA l),(2,yc ch),(9,zc6 (mnsD m l)),(11,iv (k:Int))]) (λk=>[]) (λk=>k<=(mnsD m l).length/\∀i,i<k->∀x v,(mnsD m l)[i]? =some x->ch[i]? =some v->v∈x) ((mnsD m l).length) (λk hk=>?_) (hJ:=by exact⟨by omega,λi h=>absurd h (wT i)⟩) (h0:=yd);obtain⟨u4,I⟩:=hk;refine gd ?_ ?_<;>intro u3
 ·obtain⟨x,hx⟩:∃x,(mnsD m l)[k]? =some x:=⟨_,lgg (by omega)⟩;have u2:(mnsD m l)[(k:Int).toNat]? =some x:=by simpa using hx
  obtain⟨c,Q⟩:∃c,ch[k]? =some c:=⟨_,lgg (by omega)⟩;have v9:ch[(k:Int).toNat]? =some c:=by simpa using Q
  have u1:=zjF (j6 hx);refine gq ?_;refine yW [36,37,38,39,40,41,42,43,44,45] [0,0,3,7,0,0,48,112,255,511] mo ?_;iterate 8 refine yb ?_
  refine yL (zg2 x c (by omega)) ?_;refine yb ?_;refine yF ?_;refine gd ?_ ?_<;>intro H
  ·have hE:mkE m l ch=2:=by unfold mkE;rw[j3 Z,j4 (λh=>H (zen.1 h.2 k x c hx Q))]
   have U:mkC m l ch=[]:=by unfold mkC;rw[j4 (by omega)]
   have T:mkA m l ch=[]:=by unfold mkA;rw[j4 (by omega)]
   apply ye;refine yE ?_;refine kE ?_;refine kA (yd (ts:=[(6,yc []),(7,zaP []),(8,iv 2)]) (hs:=[])) ?_;refine kL (.many (by decide) (.cons (.tmp rfl (kC ?_)) (.cons (.tmp rfl (kC ?_)) (.cons (.tmp rfl (kC ?_)) .nil))));all_goals(first|exact zE U|exact zE T|exact zE hE)
  refine gq ?_
  refine yz (k+1) (hJ:=by
   refine⟨by omega,λi hi x1 v1 G E=>?_⟩;rcases w6.1 hi with h|h
   ·exact I i h x1 v1 G E
   ·subst h;rw[hx]at G;rw[Q]at E;injection G with G;injection E with E;subst G;subst E;exact H)
 ·have hok:chOk ch (mnsD m l):=zen.2 λi x v hx hv=>I i (by have:=(j1.1 hx).1;omega) x v hx hv
  have hE:mkE m l ch=0:=by unfold mkE;rw[j3 Z,j3 ⟨by omega,hok⟩]
  have U:mkC m l ch=(mkK ch l l.length).1:=by unfold mkC;rw[j3 hE]
  have T:mkA m l ch=(mkK ch l l.length).2.1:=by unfold mkA;rw[j3 hE]
  apply kO;apply ye;refine ya ?_;apply yG;refine ya ?_;apply yG;refine yh ?_;iterate 2 apply yf
  refine kJ (yI intE 3 1 12 101 rfl rfl) ?_;refine kJ (yI za7 4 1 13 102 rfl rfl) ?_;apply yj;refine yh ?_;apply kB;refine zu (λk=>[(1,sgsA l),(2,yc ch),(12,.own 101),(13,.own 102),(14,iv ((mkK ch l k).2.2:Int)),(15,iv (k:Int))]) (λk=>[(101,.row intE (mkK ch l k).1 3 1),(102,.row za7 (mkK ch l k).2.1 4 1)]) l.length (λk hk=>?_) (h0:=yd);refine gd ?_ ?_<;>intro k5
  ·obtain⟨s,hs⟩:∃s,l[k]? =some s:=⟨_,lgg (by omega)⟩;have k4:l[(k:Int).toNat]? =some s:=by simpa using hs
   obtain⟨k3,j2,j0⟩:=zhR ch l k;refine gd ?_ ?_<;>intro V
   ·have N:=zgh (ch:=ch) hs V;have x4:(mkK ch l k).1++[0]=(mkK ch l (k+1)).1:=by rw[N]
    have x3:(mkK ch l k).2.1++[false]=(mkK ch l (k+1)).2.1:=by rw[N]
    have x2:((mkK ch l k).2.2:Int)=((mkK ch l (k+1)).2.2:Int):=by rw[N]
    refine gq ?_;refine yD intE [_] ?_;refine gq ?_;refine yD za7 [_] ?_;refine gq ?_;refine yz (k+1)
   have N:=zhQ (ch:=ch) hs V;have hZ:=zfL l l.length (k+1) (by omega);have hY:(yV l (k+1)).length=(yV l k).length+1:=by simp[yV,hs,V]
   have x0:=znn J hs V;have v8:=zkn (ch:=ch) J k x0 (by omega);have hW:ch[((mkK ch l k).2.2:Int).toNat]? =some (ch.getD (mkK ch l k).2.2 0):=by rw[wG,j8,lgg (by omega)];rfl
   have x4:(mkK ch l k).1.set (((mkK ch l k).1.length:Int)-1).toNat (ch.getD (mkK ch l k).2.2 0)=(mkK ch l (k+1)).1:=by rw[N]
   have x3:(mkK ch l k).2.1.set (((mkK ch l k).2.1.length:Int)-1).toNat (decide (ch.getD (mkK ch l k).2.2 0=0))=(mkK ch l (k+1)).2.1:=by rw[N]
   have x2:((mkK ch l k).2.2:Int)+1=((mkK ch l (k+1)).2.2:Int):=by rw[N];simp
   refine gq ?_;refine yz (k+1)
  ·have w2:k=l.length:=by omega
   subst w2;apply kO;apply ye;(iterate 2 refine ya ?_);refine yE ?_;refine kE ?_;refine kA ((k9 (k:=101) rfl).trans (k9 (k:=102) rfl)) ?_;refine kL (.many (by decide) (.cons (.tmp rfl (kC ?_)) (.cons (.tmp rfl (kC ?_)) (.cons (.tmp rfl (kC ?_)) .nil))));all_goals(first|exact zE U|exact zE T|exact zE hE)
attribute [local irreducible] mnsD ckD
end
section
attribute [local irreducible] Pur yA yC Ex X Fn Imp LeV LeB FnO It yH
def rmOk(m:Mn)(v:Int):Bool:=decide (rmV (yx m v) ⟨3,2⟩=mulV (yx m v) ⟨3,2⟩)&&decide (rmV (durT m v) ⟨3,2⟩=mulV (durT m v) ⟨3,2⟩)
def zpG:zer rmOk=true:=by kernel_rfl
def zxw{m:Mn}{s:Sg}{z:Tm}(hm:ckM m=0)(Z:1<=s.Value)(V:s.Value<=8)(U:z=bsT m s\/z=⟨3,2⟩\/z=⟨1,2⟩):rmV z ⟨3,2⟩=mulV z ⟨3,2⟩:=by
 rcases U with rfl|rfl|rfl
 ·have h:=zaS zpG hm Z V;unfold rmOk at h;simp only[j7,w5]at h;unfold bsT;split
  ·exact h.2
  ·exact h.1
 ·decide+kernel
 ·decide+kernel
attribute [local irreducible] mkC mkA mkE duV duE itK itOf ckD mulV mulE rmV rmE
set_option maxHeartbeats 4000000 in
def zfm(m:Mn)(l:List Sg)(ch mi:List Int)(hl:l.length<=1000)(x4:ch.length<=4000000)(x3:mi.length<=1000):Fn prog 184 [mnA m,sgsA l,yc ch,yc mi] (.tup [itsA (itmV m l ch mi),iv (itmE m l ch mi)]):=by
 refine kF func184 ntmps184 (λg w d=>?_);refine gc (zfl m l hl ch x4) ?_;refine gd ?_ ?_<;>intro Z
 ·have hE:itmE m l ch mi=mkE m l ch:=zmH Z;have I:itmV m l ch mi=[]:=zii (by rw[hE];exact Z);apply ye;refine yE ?_;refine kE ?_;refine kA (yd (ts:=[(8,itsA []),(9,iv (mkE m l ch))]) (hs:=[])) ?_;refine ym ?_ ?_;all_goals(first|exact zE I|exact zE hE)
 refine gc (zfN m l mi hl x3) ?_;refine gd ?_ ?_<;>intro Q
 ·have hE:itmE m l ch mi=duE m l mi:=zkt Z;have I:itmV m l ch mi=[]:=zii (by rw[hE];exact Q);apply ye;refine yE ?_;refine kE ?_;refine kA (yd (ts:=[(8,itsA []),(9,iv (duE m l mi))]) (hs:=[])) ?_;refine ym ?_ ?_;all_goals(first|exact zE I|exact zE hE)
 have hE:itmE m l ch mi=0:=(zkt Z).trans Q;have I:=zmI hE;apply yk;apply ye;refine yh ?_;iterate 2 apply yf
 refine kJ (yI itE 183 12 14 201 rfl rfl) ?_;apply yj;refine yh ?_;apply kB;have v9:=zul l (mkC m l ch) (mkA m l ch) (duV m l mi);refine zu (λk=>[(1,sgsA l),(10,yc (mkC m l ch)),(11,zaP (mkA m l ch)),(13,tmsA (duV m l mi)),(14,.own 201),(15,iv (k:Int))]) (λk=>[(201,.row itE (itK l (mkC m l ch) (mkA m l ch) (duV m l mi) k) 183 12)]) l.length (λk hk=>?_) (h0:=yd);refine gd ?_ ?_<;>intro v5
 ·obtain⟨s,hs⟩:∃s,l[k]? =some s:=⟨_,lgg (by omega)⟩;have v4:l[(k:Int).toNat]? =some s:=by simpa using hs
  have J:=zih l (mkC m l ch) (mkA m l ch) (duV m l mi) k;have v3:=zks l k;refine gd ?_ ?_<;>intro V
  ·have H:=znr (c:=mkC m l ch) (a:=mkA m l ch) (d:=duV m l mi) hs V;refine gq ?_;refine yz (k+1)
  obtain⟨x,y,z,hx,hy,hz,x0,v0,hm,v1,v8,x2⟩:=zun Z Q hs V;have H:=zpr hs V hx hy hz;have u4:(mkC m l ch)[((itK l (mkC m l ch) (mkA m l ch) (duV m l mi) k).length:Int).toNat]? =some x:=by rw[J];simpa using hx
  have u3:(mkA m l ch)[((itK l (mkC m l ch) (mkA m l ch) (duV m l mi) k).length:Int).toNat]? =some y:=by rw[J];simpa using hy
  have u2:(duV m l mi)[((itK l (mkC m l ch) (mkA m l ch) (duV m l mi) k).length:Int).toNat]? =some z:=by rw[J];simpa using hz
  have U:=zrM (zpt Z) hs V;have w2:[iv k,iv s.Value,.bool (decide (s.Kind=2)),.bool (s.Color&&!decide (s.Kind=2)),.bool false,iv x,iv z.N,iv z.D,iv 0,iv 1,iv 0,iv 1]=[iv k,iv s.Value,.bool (decide (s.Kind=2)),.bool (decide (s.Kind=1)&&s.Color),.bool false,iv x,iv z.N,iv z.D,iv 0,iv 1,iv 0,iv 1]:=by rw[zvu U]
  have T:=zgG z ⟨3,2⟩;rw[zxw hm v1 v8 x2]at T;rw[←zxt U]at H;apply yk;apply ye;refine yE ?_;refine zb1 ⟨[(1,sgsA l),(10,yc (mkC m l ch)),(11,zaP (mkA m l ch)),(13,tmsA (duV m l mi)),(14,.own 201),(15,iv (k:Int)),(16,iv ((itK l (mkC m l ch) (mkA m l ch) (duV m l mi) k).length:Int)),(17,.ptr 17 0 0 0)],[(201,.row itE (itK l (mkC m l ch) (mkA m l ch) (duV m l mi) k) 183 12),(17,.box [iv k,iv s.Value,.bool (decide (s.Kind=2)),.bool false,.bool false,iv x,iv z.N,iv z.D,iv 0,iv 1,iv 0,iv 1] 183)]⟩ (λG=>?_) ?_
  ·refine yW [17,53,54,55,56,57,58,59,60,61,62,63,64,65,66,67,68,69,70,71,72,73,74,75] [0,0,0,6,14,30,0,0,192,448,960,1984,0,0,12288,28672,0,0,196608,458752,0,0,4194303,0,16777215] mo ?_;(iterate 23 refine yb ?_);refine ChM.step rfl rfl rfl (zx (k:=17) zgZ) rfl ?_;refine yF ?_;refine kK ?_;apply kQ;exact kJ yi G
  refine zb1 ⟨[(1,sgsA l),(10,yc (mkC m l ch)),(11,zaP (mkA m l ch)),(13,tmsA (duV m l mi)),(14,.own 201),(15,iv (k:Int)),(16,iv ((itK l (mkC m l ch) (mkA m l ch) (duV m l mi) k).length:Int)),(17,.ptr 17 0 0 0)],[(201,.row itE (itK l (mkC m l ch) (mkA m l ch) (duV m l mi) k) 183 12),(17,.box [iv k,iv s.Value,.bool (decide (s.Kind=2)),.bool (decide (s.Kind=1)&&s.Color),.bool false,iv x,iv z.N,iv z.D,iv 0,iv 1,iv 0,iv 1] 183)]⟩ (λE=>?_) ?_
  ·apply yj;(iterate 5 refine ya ?_);refine kI 5 ?_;refine yp ?_;(iterate 3 refine kG ?_);refine zdK ?_;(iterate 2 refine ya ?_);refine kK ?_;apply kQ;exact kJ yi E
  refine gd ?_ ?_<;>intro xT
  ·subst xT;refine gq ?_;refine yP T ?_;(iterate 4 refine ya ?_);refine kK ?_;apply yG;(iterate 2 refine ya ?_);refine kI 2 ?_;refine yp ?_;(iterate 2 refine kG ?_);(iterate 2 refine yp ?_);(iterate 4 refine kG ?_);(iterate 2 refine yp ?_);(iterate 5 refine kG ?_);refine ge ?_;refine yD itE [itL k s (decide (s.Kind=2)||(decide (s.Kind=1)&&s.Color)||true||decide (x=s.Value)) x (mulV z ⟨3,2⟩)] ?_;refine gq ?_;refine yz (k+1)
  ·subst xT;apply yk;apply ye;(iterate 2 refine ya ?_);refine kI 2 ?_;refine yp ?_;(iterate 2 refine kG ?_);(iterate 2 refine yp ?_);(iterate 4 refine kG ?_);(iterate 2 refine yp ?_);(iterate 5 refine kG ?_);refine ge ?_;refine yD itE [itL k s (decide (s.Kind=2)||(decide (s.Kind=1)&&s.Color)||false||decide (x=s.Value)) x z] ?_;refine gq ?_;refine yz (k+1)
 ·have x1:k=l.length:=by omega
  subst x1;apply kO;apply ye;refine yE ?_;refine kE ?_;refine kA (k9 (k:=201) rfl) ?_;refine ym ?_ ?_;all_goals(first|exact zE I|exact zE hE)
end
section
attribute [local irreducible] Pur yA yC Ex X Fn Imp LeV LeB FnO It yH
attribute [local irreducible] ckD zl twos prL
set_option maxHeartbeats 4000000 in
def zlM(m:Mn)(l:List Sg)(hl:l.length<=1000):Fn prog 137 [mnA m,sgsA l] (.tup [yc (if ckD m l=0 then zl m l else[]),yc (twos (prL m l).length),iv (ckD m l)]):=by
 refine kF func137 ntmps137 (λg w d=>?_);refine gc (zmC m l hl) ?_;refine gd ?_ ?_<;>intro Z
 ·have ht:[]=twos (prL m l).length:=by rw[zmW Z];unfold twos;rfl
  have hr:[]=(if ckD m l=0 then zl m l else[]):=by rw[j4 Z]
  apply ye;refine ya ?_;refine yE ?_;refine kE ?_;refine kA (yd (ts:=[(4,yc []),(5,yc []),(6,iv (ckD m l))]) (hs:=[])) ?_;refine kL (.many (by decide) (.cons (.tmp rfl (kC ?_)) (.cons (.tmp rfl (kC ?_)) (.cons (.tmp rfl (kC ?_)) .nil))));all_goals(first|exact j5 yc ht|exact j5 yc hr|rfl)
 refine gc (zkM m l hl) ?_;refine gd ?_ ?_<;>intro V
 ·exact absurd Z V
 refine gq ?_;refine kL (.many (by decide) (.cons (.tmp rfl (kC ?_)) (.cons (.tmp rfl (kC ?_)) (.cons (.tmp rfl (kC ?_)) .nil))));all_goals(first|rfl|exact j5 (AV.int .i64) Z.symm)
end
section
attribute [local irreducible] Pur yA yC Ex X Fn Imp LeV LeB FnO It yH
attribute [local irreducible] ckD zl twos prL mnsD
def zfP(m:Mn)(l:List Sg)(hl:l.length<=1000):Fn prog 183 [mnA m,sgsA l] (.tup [yc (if ckD m l=0 then zl m l else[]),yc (twos (prL m l).length),iv (ckD m l)]):=by
 refine kF func183 ntmps183 (λg w d=>?_);refine gc (zfq m l hl) ?_;refine gd ?_ ?_<;>intro Z
 ·have ht:[]=twos (prL m l).length:=by rw[zmW Z];unfold twos;rfl
  have hr:[]=(if ckD m l=0 then zl m l else[]):=by rw[j4 Z]
  apply ye;refine ya ?_;refine yE ?_;refine kE ?_;refine kA (yd (ts:=[(4,yc []),(5,yc []),(6,iv (ckD m l))]) (hs:=[])) ?_;refine kL (.many (by decide) (.cons (.tmp rfl (kC ?_)) (.cons (.tmp rfl (kC ?_)) (.cons (.tmp rfl (kC ?_)) .nil))));all_goals(first|exact j5 yc ht|exact j5 yc hr|rfl)
 refine gc (zfX m l hl) ?_;refine gd ?_ ?_<;>intro V
 ·exact absurd Z V
 refine gq ?_;refine kL (.many (by decide) (.cons (.tmp rfl (kC ?_)) (.cons (.tmp rfl (kC ?_)) (.cons (.tmp rfl (kC ?_)) .nil))));all_goals(first|rfl|exact j5 (AV.int .i64) Z.symm)
end
end Go.Rse
namespace Go.Rse
open Go Go.Proofs Go.RowKit Go.Proofs.Tryz
attribute [local irreducible] Pur yA yC Ex X Fn Imp LeV LeB FnO It yH
def zpH(m:Mn)(l:List Sg)(ch mi:List Int):(itmV m l ch mi).length<=l.length:=by
 unfold itmV;split
 ·rw[zih];exact zks l _
 ·simp
attribute [local irreducible] itmE itmV zl ckD twos prL
end Go.Rse
namespace Go.Rse
open Go Go.Proofs Go.Proofs.Tryz
def rdI(m:Mn)(l:List Sg):List Ite:=itmV m l (zl m l) (twos (prL m l).length)
def rdE(m:Mn)(l:List Sg):Int:=if ckD m l=0 then leE m (rdI m l)else ckD m l
def rdV(m:Mn)(l:List Sg):Rdg:=if rdE m l=0 then⟨zl m l,twos (prL m l).length,leC m (rdI m l),(leI m (rdI m l)).map (·.Dur)⟩else⟨[],[],[],[]⟩
section
variable{m:Mn}{l:List Sg}
def zpI(h:ckD m l=0):itmE m l (zl m l) (twos (prL m l).length)=0:=by
 unfold itmE;rw[j3 (zrX (zeo h).1 h)];exact zrY h
def zxx(h:¬ckD m l=0):rdE m l=ckD m l/\rdV m l=⟨[],[],[],[]⟩:=by
 have:rdE m l=ckD m l:=by unfold rdE;rw[j4 h]
 refine⟨this,?_⟩;unfold rdV;rw[this,j4 h]
def zxy(h:ckD m l=0)(Z:¬leE m (rdI m l)=0):rdE m l=leE m (rdI m l)/\rdV m l=⟨[],[],[],[]⟩:=by
 have:rdE m l=leE m (rdI m l):=by unfold rdE;rw[j3 h]
 refine⟨this,?_⟩;unfold rdV;rw[this,j4 Z]
def zxz(h:ckD m l=0)(Z:leE m (rdI m l)=0):rdE m l=0/\rdV m l=⟨zl m l,twos (prL m l).length,leC m (rdI m l),(leI m (rdI m l)).map (·.Dur)⟩:=by
 have:rdE m l=0:=by unfold rdE;rw[j3 h,Z]
 refine⟨this,?_⟩;unfold rdV;rw[this,j3 rfl]
def zkx:(rdI m l).length<=l.length:=zpH _ _ _ _
end
def znx{m:Mn}:∀(L:List Int)(l:List Ite)(C:List Int),(lvF m L l C).2.1.length<=l.length
 |[],l,C=>jD _
 |k::r,l,C=>by
  unfold lvF;split
  ·rename_i h;have:=znx (m:=m) r (apV m k l (cuV m k l)) (C++cuV m k l);rw[zkD (zlU h)]at this;exact this
  ·simp
def zky(m:Mn)(l:List Ite):(leI m l).length<=l.length:=by
 unfold leI;split
 ·exact znx _ _ _
 ·simp
def zpJ{l:List Ite}{n:Nat}{x:Ite}(h:l[n]? =some x):(l.take n).map (·.Dur)++[x.Dur]=(l.take (n+1)).map (·.Dur):=by
 rw[jF,h];simp
end Go.Rse
