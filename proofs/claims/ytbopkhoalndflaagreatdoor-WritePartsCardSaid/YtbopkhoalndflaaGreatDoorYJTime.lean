/-
  Plain.
-/
import Derived.Test.YtbopkhoalndflaaGreatDoorYTk
set_option linter.all false
namespace Go.Rse
open Go Go.Proofs Go.Proofs.Tryz
def gI(a b:Int):Int:=(Nat.gcd a.natAbs b.natAbs:Nat)
def zk1{a:Int}(h:0<=a):gI a 0=a:=by
 unfold gI;simp;omega
def zk2{a b:Int}(Z:0<=a)(V:0<b):gI b (a%b)=gI a b:=by
 obtain⟨m,rfl⟩:=uA Z;obtain⟨n,rfl⟩:=uA (uD V);unfold gI;have:((m:Int)%(n:Int)).natAbs=m%n:=by rw[←Int.natCast_emod];exact Int.natAbs_natCast _
 rw[this];simp only[Int.natAbs_natCast];rw[Nat.gcd_comm n (m%n),←Nat.gcd_rec,Nat.gcd_comm]
def zcf{n d:Int}(h:0<d):0<gI n d:=by
 unfold gI;have:0<Nat.gcd n.natAbs d.natAbs:=vX _ (by omega);omega
def zuY(n d:Int):0<=gI n d:=by unfold gI;omega
def tmZ:Tm:=⟨0,0⟩
def ckT(t:Tm):Int:=if t.N<0\/1099511627776<t.N\/t.D<1\/1048576<t.D then 2 else if 1<gI t.N t.D then 3 else 0
def z7{t:Tm}(h:ckT t=0):0<=t.N/\t.N<=1099511627776/\0<=t.D/\t.D<=1048576/\1<=t.D/\gI t.N t.D=1:=by
 unfold ckT at h;split at h
 ·simp at h
 ·split at h
  ·simp at h
  ·have:=zcf (n:=t.N) (d:=t.D) (by omega);omega
def yM:List Tm->Int
 |[]=>0
 |t::r=>if ckT t=0 then yM r else ckT t
def zbq{l:List Tm}{k:Nat}{t:Tm}(h:l[k]? =some t):yM (l.drop k)=if ckT t=0 then yM (l.drop (k+1))else ckT t:=by
 have Z:=j1.1 h;rw[jG Z.1,Z.2];rfl
theorem zbY{a b:Tm}(h:yM [a,b]=0):ckT a=0/\ckT b=0:=by
 simp only[yM]at h;by_cases Z:ckT a=0
 ·rw[j3 Z]at h;by_cases V:ckT b=0
  ·exact⟨Z,V⟩
  ·rw[j4 V]at h;exact absurd h V
 ·rw[j4 Z]at h;exact absurd h Z
theorem zjZ:∀{l:List Tm},yM l=0->∀t∈l,ckT t=0
 |[],_,t,ht=>by simp at ht
 |s::r,h,t,ht=>by
  simp only[yM]at h;by_cases hs:ckT s=0
  ·rw[j3 hs]at h;rcases jZ.1 ht with rfl|ht
   ·exact hs
   ·exact zjZ h t ht
  ·rw[j4 hs]at h;exact absurd h hs
def mulB{x y X Y:Int}(Z:0<=x)(V:x<=X)(U:0<=y)(T:y<=Y):0<=x*y/\x*y<=X*Y:=
 ⟨vF Z U,xU V T U (Int.le_trans Z V)⟩
theorem mulP{x y:Int}(Z:1<=x)(V:1<=y):1<=x*y:=by
 have:=xU Z V (by omega) (by omega);simpa using this
def tmkE(n d:Int):Int:=if n<0\/d<0 then 2 else if d=0 then 5 else if 1099511627776<n/gI n d\/1048576<d/gI n d then 4 else 0
def tmkT(n d:Int):Tm:=if tmkE n d=0 then⟨n/gI n d,d/gI n d⟩else tmZ
def addE(a b:Tm):Int:=if yM [a,b]=0 then tmkE (a.N*b.D+b.N*a.D) (a.D*b.D)else yM [a,b]
def addV(a b:Tm):Tm:=if yM [a,b]=0 then tmkT (a.N*b.D+b.N*a.D) (a.D*b.D)else tmZ
def subE(a b:Tm):Int:=if yM [a,b]=0 then tmkE (a.N*b.D-b.N*a.D) (a.D*b.D)else yM [a,b]
def subV(a b:Tm):Tm:=if yM [a,b]=0 then tmkT (a.N*b.D-b.N*a.D) (a.D*b.D)else tmZ
def bigQ(a b c d:Int):Prop:=(0<a/\1099511627776/a<c)\/(0<d/\1048576/d<b)
instance(a b c d:Int):Decidable (bigQ a b c d):=inferInstanceAs(Decidable (_\/_))
def tmsE(a b c d:Int):Int:=if bigQ (a/gI a d) (b/gI c b) (c/gI c b) (d/gI a d)then 4 else tmkE (a/gI a d*(c/gI c b)) (b/gI c b*(d/gI a d))
def tmsV(a b c d:Int):Tm:=if bigQ (a/gI a d) (b/gI c b) (c/gI c b) (d/gI a d)then tmZ else tmkT (a/gI a d*(c/gI c b)) (b/gI c b*(d/gI a d))
def mulE(a b:Tm):Int:=if yM [a,b]=0 then tmsE a.N a.D b.N b.D else yM [a,b]
def mulV(a b:Tm):Tm:=if yM [a,b]=0 then tmsV a.N a.D b.N b.D else tmZ
def cmpV(a b:Tm):Int:=if yM [a,b]=0 then(if a.N*b.D<b.N*a.D then-1 else if b.N*a.D<a.N*b.D then 1 else 0)else 0
def sumF:Tm->List Tm->Tm×Int
 |s,[]=>(s,0)
 |s,t::r=>if addE s t=0 then sumF (addV s t) r else(tmZ,addE s t)
def zj0{l:List Tm}{k:Nat}{t s:Tm}(h:l[k]? =some t):sumF s (l.drop k)=if addE s t=0 then sumF (addV s t) (l.drop (k+1))else(tmZ,addE s t):=by
 have Z:=j1.1 h;rw[jG Z.1,Z.2];rfl
def sumE(l:List Tm):Int:=if yM l=0 then(sumF ⟨0,1⟩ l).2 else yM l
def sumV(l:List Tm):Tm:=if yM l=0 then(sumF ⟨0,1⟩ l).1 else tmZ
def whE(a b:Tm):Int:=if yM [a,b]=0 then(if b.N=0 then 5 else tmkE (a.N*b.D%(b.N*a.D)) (a.D*b.D))else yM [a,b]
def whQ(a b:Tm):Int:=if whE a b=0 then a.N*b.D/(b.N*a.D)else 0
def whR(a b:Tm):Tm:=if whE a b=0 then tmkT (a.N*b.D%(b.N*a.D)) (a.D*b.D)else tmZ
def zfb{a c M:Int}(Z:0<a)(T:0<=M)(h:¬M/a<c):a*c<=M:=by
 have V:c<=M/a:=by omega
 have U:=vH V (uD Z);exact Int.le_trans U (Int.mul_ediv_self_le (by omega))
end Go.Rse
namespace Go.Rse
open Go Go.Proofs.Tryz
def two3(n:Int):Prop:=n=2\/n=3
instance(n:Int):Decidable (two3 n):=inferInstanceAs(Decidable (_\/_))
def Mn.p(m:Mn)(v:Int):Int:=if v=1 then m.Max else if v=2 then m.Mod else if v=3 then m.Tem else if v=4 then m.Pro else 2
def Mn.Ok(m:Mn):Prop:=two3 m.Max/\two3 m.Mod/\two3 m.Tem/\two3 m.Pro
instance(m:Mn):Decidable m.Ok:=inferInstanceAs(Decidable (_/\_/\_/\_))
def ckM(m:Mn):Int:=if m.Ok then 0 else 12
def ckMV(m:Mn)(v:Int):Int:=if m.Ok then(if 1<=v/\v<=8 then 0 else 2)else 12
def zob(m:Mn)(v:Int)(Z:1<=v)(V:v<=4):(mnE m)[(v-1).toNat]? =some (iv (m.p v)):=by
 have:v=1\/v=2\/v=3\/v=4:=by omega
 rcases this with rfl|rfl|rfl|rfl<;>rfl
def Mn.ok_iff(m:Mn):m.Ok↔∀v:Int,1<=v->v<=4->two3 (m.p v):=by
 constructor
 ·rintro⟨a,b,c,d⟩v Z V
  have:v=1\/v=2\/v=3\/v=4:=by omega
  rcases this with rfl|rfl|rfl|rfl<;>assumption
 ·intro h;exact⟨h 1 (by omega) (by omega),h 2 (by omega) (by omega),h 3 (by omega) (by omega),h 4 (by omega) (by omega)⟩
end Go.Rse
namespace Go.Rse
open Go Go.Proofs Go.Proofs.Tryz
section
attribute [local irreducible] Pur yA yC Ex X Fn Imp LeV LeB
def zgK(m:Mn):Fn prog 164 [mnA m] (mnA m):=by
 refine kF func164 ntmps164 (λg w d=>?_);refine gq ?_;refine kL (.one (.cellA rfl rfl rfl rfl zvh (kC ?_)));all_goals rfl
def zj1(m:Mn)(v:Int)(V:1<=v)(T:v<=8):Fn prog 231 [mnA m,iv v] (iv (m.p v)):=by
 refine kF func231 ntmps231 (λg w d=>?_);refine gd ?_ ?_<;>intro Z
 ·refine gq ?_;all_goals(first|rfl|(congr 1;unfold Mn.p;rw[j4 (by omega),j4 (by omega),j4 (by omega),j4 (by omega)]))
 have U:=zob m v V Z;refine gq ?_;refine yP (zgK m) ?_;iterate 2 refine ya ?_
 refine zz (zlk zrJ ty3 rfl rfl (by omega) (by omega) U) rfl ?_;refine gq ?_;all_goals(first|rfl|(congr 1;unfold Mn.p;rw[j4 (by omega),j4 (by omega),j4 (by omega),j4 (by omega)]))
def zaV(m:Mn):Fn prog 118 [mnA m] (iv (ckM m)):=by
 refine kF func118 ntmps118 (λg w d=>?_);refine gq ?_;refine yP (zgK m) ?_;refine yh ?_;apply kB;refine zM (λk=>[(6,mnA m),(7,iv k)]) (λk=>[]) (λk=>k<=4/\∀v:Int,1<=v->v<=k->two3 (m.p v)) 4 (λk N=>?_) (hJ:=by exact⟨by omega,λv V T=>by omega⟩) (h0:=yd);obtain⟨J,Z⟩:=N;refine gd ?_ ?_<;>intro I
 ·have Q:=zob m ((k:Int)+1) (by omega) (by omega);rw[show((k:Int)+1-1)=(k:Int)by omega]at Q;apply yk;apply yf;apply kB;apply ye;refine zz (zlk zrJ ty3 rfl rfl (by omega) (by omega) Q) rfl ?_;refine ya ?_;apply yG;iterate 2 refine ya ?_
  refine kI 2 ?_;refine yp ?_;iterate 2 refine kG ?_
  refine gf ?_ ?_<;>intro H
  ·refine gq ?_;all_goals(congr 1;unfold ckM;rw[j4 (λh=>by have:=(m.ok_iff.1 h) (k+1) (by omega) (by omega);unfold two3 at this;omega)])
  have U:two3 (m.p ((k:Int)+1)):=by unfold two3;omega
  refine gq ?_
  refine yz (k+1) (hJ:=by exact⟨by omega,λv V T=>by
   by_cases e:v=k+1
   ·rw[e];exact U
   ·exact Z v V (by omega)⟩)
 ·refine gq ?_;all_goals(congr 1;unfold ckM;rw[j3 (m.ok_iff.2 λv V T=>Z v V (by omega))])
def zcU(m:Mn)(v:Int):Fn prog 197 [mnA m,iv v] (iv (ckMV m v)):=by
 refine kF func197 ntmps197 (λg w d=>?_);refine gq ?_;refine yP (zaV m) ?_;refine yh ?_;apply yf;apply ye;iterate 2 refine ya ?_
 refine kI 2 ?_;refine yp ?_;iterate 6 refine kG ?_
 refine gf ?_ ?_<;>intro Z
 ·refine gq ?_;all_goals(by_cases hm:m.Ok<;>simp_all[ckM,ckMV]<;>omega)
 refine gq ?_;all_goals(by_cases hm:m.Ok<;>simp_all[ckM,ckMV]<;>omega)
def zdY(m:Mn)(v:Int):Fn prog 177 [mnA m,iv v] (.tup [iv (if ckMV m v=0 then m.p v else 0),iv (ckMV m v)]):=by
 refine kF func177 ntmps177 (λg w d=>?_);refine gc (zcU m v) ?_;refine gd ?_ ?_<;>intro Z
 ·refine gq ?_;refine ym ?_ ?_;all_goals exact zR
 refine gc (zj1 m v (by unfold ckMV at Z;split at Z<;>omega) (by unfold ckMV at Z;split at Z<;>omega)) ?_;refine ym ?_ ?_;all_goals exact zR
end
section
attribute [local irreducible] Pur yA yC Ex X Fn Imp LeV LeB FnO It yH
def ziP(l:List Int):List (List AV):=(List.range l.length).map λ(j:Nat)=>[iv ((l.length:Int)-1-(j:Int)),iv (l.getD (l.length-1-j) 0)]
def zj2{l:List Int}{k:Nat}(h:k<l.length):(ziP l)[k]? =some [iv ((l.length:Int)-1-k),iv (l.getD (l.length-1-k) 0)]:=by
 simp[ziP,h]
def zhe{l:List Int}{j:Nat}{zs:List AV}(h:(ziP l)[j]? =some zs):j<l.length/\zs=[iv ((l.length:Int)-1-j),iv (l.getD (l.length-1-j) 0)]:=by
 have Z:j<l.length:=by have:=(j1.1 h).1;simpa[ziP]using this
 rw[zj2 Z]at h;exact⟨Z,by simpa using h.symm⟩
def zo7(l:List Int):(ziP l).length=l.length:=by simp[ziP]
def zcs(l:List Int)(hl:l.length<=4000000000):It prog 302 [.ept (λ_:Unit=>[.sl intE l]) () 0] (ziP l):=by
 refine It.intro (ts:=λlY=>[(0,.yv lY),(1,.ept (λ_:Unit=>[.sl intE l]) () 0)]) (n:=19) (by kernel_rfl) func302 rfl ntmps302 rfl (λ_=>rfl) (by simp) (λg w d ds Y lY U=>?_);apply ye;refine ya ?_;refine yE ?_;apply kB;refine zu (λk=>[(0,.yv lY),(1,.ept (λ_:Unit=>[.sl intE l]) () 0),(3,iv ((l.length:Int)-1-k))]) (λk=>[(1000000,.yld k true)]) l.length (λk Q=>?_) (h0:=yd);refine gd ?_ ?_<;>intro T
 ·have Z:k<l.length:=by omega
  have N:l[((l.length:Int)-1-k).toNat]? =some (l.getD (l.length-1-k) 0):=by
   rw[show((l.length:Int)-1-k).toNat=l.length-1-k by omega,j8,lgg (by omega)];rfl
  apply yk;apply yf;apply kB;apply ye;iterate 6 refine ya ?_
  refine Ex.yield U rfl rfl rfl (kS _) rfl rfl (zj2 Z) rfl (λb=>?_);refine gd ?_ ?_<;>intro V
  ·refine kE ?_;refine⟨.inr rfl,_,b,rfl,λJ=>by simp_all⟩
  subst V;apply yk;apply yj;refine yE ?_;refine⟨k+1,yd,?_,?_⟩
  ·omega
  ·omega
 ·apply kO;refine⟨.inl rfl,k,true,rfl,λ_=>by rw[zo7];omega⟩
end
section
attribute [local irreducible] Pur yA yC Ex X Fn Imp LeV LeB FnO It yH
def zdc(l:List Int):Fn prog 259 [yc l] (.fn 302 [.ept (λ_:Unit=>[.sl intE l]) () 0]):=by
 refine kF func259 ntmps259 (λg w d=>?_);apply ye;refine zeW ?_;refine ya ?_;apply yG;refine yO ?_;refine kE ?_;refine kA (y5 (k:=1) rfl rfl) ?_;refine gq ?_;all_goals exact zR
def zbD(l:List Int)(hl:l.length<=4000000000):FnO prog 233 [yc l] [] [] (.own 5) [(5,.row intE l 3 1)]:=by
 refine bF (ts:=[(0,yc l)]) (rv:=[.tmp 2]) (n:=8) (cs:=[]) (by kernel_rfl) func233 rfl ntmps233 rfl rfl (by simp) rfl rfl rfl rfl (λg w d vs=>?_);apply ye;refine yh ?_;apply yf;apply ye;refine ya ?_;refine Ex.eqNil rfl sl46 rfl (λb U=>?_);refine gd ?_ ?_<;>intro Z
 ·have V:=U Z;subst V;subst Z;apply ye;refine yh ?_;refine kE ?_;refine zou.imp (yI intE 3 1 2 5 rfl rfl) ?_;refine zou.mk (ts:=[(2,.own 5)]) (.inr rfl) (yd) (.one (.tmp rfl (kC rfl)))
 refine gq ?_;refine yD intE [] ?_;refine ya ?_;refine kK ?_;refine yh ?_;refine kE ?_;refine zou.mk (ts:=[(2,.own 5)]) (.inr rfl) (yd) (.one (.tmp rfl (kC rfl)))
def perfL(m:Mn):List Int:=([4,3,2,1]:List Int).filter λv=>decide (m.p v=3)
def zfC(m:Mn):List (List AV):=(perfL m).map λv=>[iv v]
def pcnt(m:Mn)(j:Nat):Nat:=((([4,3,2,1]:List Int).take j).filter λv=>decide (m.p v=3)).length
def mnL(m:Mn):List Int:=[m.Max,m.Mod,m.Tem,m.Pro]
def zsZ(m:Mn)(j:Nat)(h:j<4):(mnL m).getD (4-1-j) 0=m.p (4-j):=by
 have:j=0\/j=1\/j=2\/j=3:=by omega
 rcases this with rfl|rfl|rfl|rfl<;>rfl
def zqO(m:Mn)(j:Nat)(h:j<4)(Z:m.p (4-j)=3):(zfC m)[pcnt m j]? =some [iv (4-j)]/\pcnt m (j+1)=pcnt m j+1:=by
 have:j=0\/j=1\/j=2\/j=3:=by omega
 rcases this with rfl|rfl|rfl|rfl<;>simp at Z<;>simp[zfC,perfL,pcnt,u5,Z]
 ·split<;>simp
 ·split<;>split<;>simp
 ·split<;>split<;>split<;>simp
def zs0(m:Mn)(j:Nat)(h:j<4)(Z:¬m.p (4-j)=3):pcnt m (j+1)=pcnt m j:=by
 have:j=0\/j=1\/j=2\/j=3:=by omega
 rcases this with rfl|rfl|rfl|rfl<;>simp at Z<;>simp[pcnt,u5,Z]
def zqP(m:Mn):pcnt m 4=(zfC m).length:=by simp[zfC,perfL,pcnt]
def zdD(m:Mn):It prog 258 [.ept (λ_:Unit=>mnE m) () 0] (zfC m):=by
 refine It.intro (ts:=λlY=>[(0,.yv lY),(1,.ept (λ_:Unit=>mnE m) () 0)]) (n:=29) (by kernel_rfl) func258 rfl ntmps258 rfl (λ_=>rfl) (by simp) (λg w d ds Y lY G=>?_);apply ye;refine zeW ?_;apply yG;refine yD intE [] ?_;refine gq ?_;refine yD intE [_,_,_,_] ?_;refine kK ?_;refine kU (k9 (k:=5) rfl) ?_;refine zbt [(5,16)] (zbD (mnL m) (by simp[mnL])) rfl rfl rfl (kS _) rfl rfl trivial rfl rfl rfl rfl ?_;refine kU (k9 (k:=16) rfl) ?_;refine Ex.call rfl rfl rfl (zdc (mnL m)) rfl ?_;refine gq ?_;refine X.range (sl:=[2]) (λj=>([.ptr 2 0 0 0],[(2,.box [.yv lY] 184),(1000000,.yld (pcnt m j) true)])) (λj=>True) 900001 900002 rfl rfl (by decide) (λj zs T=>by obtain⟨_,rfl⟩:=zhe T;rfl) (zcs (mnL m) (by simp[mnL])) trivial rfl rfl (by decide) (jD _) (by simp) (λj zs T=>by obtain⟨_,rfl⟩:=zhe T;rfl) (λ_=>rfl) rfl rfl (λl o us=>yd) (trivial) (λj zs T hJ l ready busy rb vs g w H E=>?_) (λhJ=>?_)
 ·obtain⟨Z,rfl⟩:=zhe T;have Z:j<4:=Z;have hv:(mnL m).getD ((mnL m).length-1-j) 0=m.p (4-j):=zsZ m j Z;have xT:(mnL m).length=4:=rfl;apply ye;refine yh ?_;apply yj;refine yh ?_;refine⟨rfl,rfl,?_⟩;apply kB;apply ye;iterate 3 refine ya ?_
  refine zra (t:=22) true rfl (λV=>?_) (λV=>?_)
  ·refine zag ?_;(iterate 2 refine zag ?_);have U:m.p (4-j)=3:=by rw[←hv];simpa using V
   obtain⟨N,J⟩:=zqO m j Z U;refine zcz G rfl rfl rfl (λ_=>⟨_,_,rfl,rfl,rfl,.cons (kC (by congr 1;omega)) .nil,rfl,rfl,N,λb=>?_⟩) (λh=>absurd (h.symm.trans V) (by decide));refine zag ?_;refine gd ?_ ?_<;>intro Q
   ·subst Q;refine kE ?_;refine⟨[.ptr 2 0 0 0],[(2,.box [.yv lY] 184),(1000000,.yld (pcnt m j) false)],yd,?_⟩;refine⟨.inr rfl,_,false,rfl,λH=>by simp at H⟩
   subst Q;apply yk;refine⟨[.ptr 2 0 0 0],[(2,.box [.yv lY] 184),(1000000,.yld (pcnt m (j+1)) true)],yd,rfl,trivial⟩
  ·refine zbP ?_;(iterate 4 refine zbP ?_);refine gd ?_ ?_<;>intro I
   ·exact absurd I (by decide)
   have U:¬m.p (4-j)=3:=by rw[←hv];simpa using V
   have J:=zs0 m j Z U;apply yk;refine⟨[.ptr 2 0 0 0],[(2,.box [.yv lY] 184),(1000000,.yld (pcnt m (j+1)) true)],yd,rfl,trivial⟩
 refine⟨.inl rfl,_,true,rfl,λ_=>zqP m⟩
def zeF(m:Mn):Fn prog 196 [mnA m] (.fn 258 [.ept (λ_:Unit=>mnE m) () 0]):=by
 refine kF func196 ntmps196 (λg w d=>?_);apply ye;refine zH ?_;refine ya ?_;apply yG;refine yO ?_;refine kE ?_;refine kA (y5 (k:=1) rfl rfl) ?_;refine gq ?_;all_goals exact zR
end
section
attribute [local irreducible] Pur yA yC Ex X Fn Imp LeV LeB FnO It yH
def Mn.ab(m:Mn)(v:Int):Int:=((perfL m).find? λk=>decide (k<v)).getD 0
def zcx{m:Mn}{j:Nat}{zs:List AV}(h:(zfC m)[j]? =some zs):∃k,(perfL m)[j]? =some k/\zs=[iv k]:=by
 rw[zfC,jO]at h;cases Z:(perfL m)[j]? with
 |none=>simp[Z]at h
 |some k=>simp[Z]at h;exact⟨k,rfl,h.symm⟩
def zww{m:Mn}{v:Int}{j:Nat}{k:Int}(h:(perfL m)[j]? =some k)(hJ:∀i,i<j->∀k,(perfL m)[i]? =some k->¬k<v)(Z:k<v):m.ab v=k:=by
 unfold Mn.ab;generalize perfL m=l at h hJ
 induction l generalizing j with
 |nil=>simp at h
 |cons x r ih=>
  cases j with
  |zero=>simp at h;subst h;simp[Z]
  |succ j=>
   have hx:=hJ 0 (by omega) x (by simp);simp only[vZ,w5,jC hx];exact ih (by simpa using h) (λi hi k Z=>hJ (i+1) (by omega) k (by simpa using Z))
def zoc{m:Mn}{v:Int}(hJ:∀i,i<(perfL m).length->∀k,(perfL m)[i]? =some k->¬k<v):m.ab v=0:=by
 unfold Mn.ab;rw[List.find?_eq_none.2 (λx hx=>?_)]
 ·rfl
 ·obtain⟨i,hi⟩:=jP.1 hx;have:=hJ i (j1.1 hi).1 x hi;simpa using this
def zgL(m:Mn)(v:Int):Fn prog 176 [mnA m,iv v] (.tup [iv (if ckMV m v=0 then m.ab v else 0),iv (ckMV m v)]):=by
 refine kF func176 ntmps176 (λg w d=>?_);refine gq ?_;refine zeW ?_;refine gc (zcU m v) ?_;refine gd ?_ ?_<;>intro V
 ·refine gq ?_;refine kL (.many (by decide) (.cons (.cellS rfl rfl rfl ty3 (kC ?_)) (.cons (.cellS rfl rfl rfl ty28 (kC ?_)) .nil)));all_goals(first|(simp_all;done))
 refine gc (zeF m) ?_;refine X.range (sl:=[3,4,5]) (λj=>([.ptr 3 0 0 0,.ptr 4 0 0 0,.ptr 5 0 0 0],[(3,.box [iv v] 3),(4,.box [iv 0] 3),(5,.box [iv 0] 28)])) (λj=>∀i,i<j->∀k,(perfL m)[i]? =some k->¬k<v) 900001 900002 rfl rfl (by decide) (λj zs U=>by obtain⟨k,_,rfl⟩:=zcx U;rfl) (zdD m) trivial rfl rfl (by decide) (w7 _) (by simp) (λj zs U=>by obtain⟨k,_,rfl⟩:=zcx U;rfl) (λ_=>rfl) rfl rfl (λl o us=>yd) (λi hi=>absurd hi (wT i)) (λj zs U hJ l ready busy rb vs g w J N=>?_) (λhJ=>?_)
 ·obtain⟨k,Q,rfl⟩:=zcx U;apply yj;refine yh ?_;refine⟨rfl,rfl,?_⟩;refine gd ?_ ?_<;>intro T
  ·apply ye;refine ya ?_;(iterate 2 refine kK ?_);apply kQ;refine kE ?_;refine⟨[.ptr 3 0 0 0,.ptr 4 0 0 0,.ptr 5 0 0 0],[(3,.box [iv v] 3),(4,.box [iv k] 3),(5,.box [iv 0] 28)],yd,?_⟩;refine kL (.many (by decide) (.cons (.cellS rfl rfl rfl ty3 (kC ?_)) (.cons (.cellS rfl rfl rfl ty28 (kC ?_)) .nil)));all_goals(first|(simp only[V,if_true];rw[zww Q hJ T];done)|(simp_all;done))
  apply yk;refine⟨[.ptr 3 0 0 0,.ptr 4 0 0 0,.ptr 5 0 0 0],[(3,.box [iv v] 3),(4,.box [iv 0] 3),(5,.box [iv 0] 28)],yd,rfl,λi hi k2 Z=>by
 rcases w6.1 hi with h|h
 ·exact hJ i h k2 Z
 ·subst h;rw[Q]at Z;injection Z with Z;subst Z;omega⟩
 refine gq ?_;refine kL (.many (by decide) (.cons (.cellS rfl rfl rfl ty3 (kC ?_)) (.cons (.cellS rfl rfl rfl ty28 (kC ?_)) .nil)));all_goals(first|(simp only[V,if_true];rw[zoc (by simpa[zfC]using hJ)];done)|(simp_all;done))
end
end Go.Rse
