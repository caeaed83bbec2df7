/-
  Walks.
-/
import Derived.Test.YtbopkhoalndflaaGreatDoorUJKit1
set_option linter.all false
namespace Go.Rse
open Go Go.Proofs Go.Proofs.Tryz
def fmV(m:Mn)(b:Bt)(h:Hb):List (List Sg):=if wcE m [b]=0 then frV m b h else[]
theorem zjs{m:Mn}{l:List Bt}{h:Hb}(c:¬wcE m l=0):wcnE m l h=wcE m l/\wcnV m l h=0:=by
 have e:wcnE m l h=wcE m l:=by unfold wcnE;rw[j3 c]
 exact⟨e,by unfold wcnV;rw[e,j3 c]⟩
def zoT{m:Mn}{l:List Bt}{h:Hb}(c:wcE m l=0)(c2:12<l.length):wcnE m l h=11/\wcnV m l h=0:=by
 have e:wcnE m l h=11:=by unfold wcnE;rw[j4 c,j4 c2]
 exact⟨e,by unfold wcnV;rw[e];rfl⟩
def zmH{m:Mn}{l:List Bt}{h:Hb}(c:wcE m l=0)(c2:¬12<l.length)(c3:4096<cnP m h l):wcnE m l h=15/\wcnV m l h=0:=by
 have e:wcnE m l h=15:=by unfold wcnE;rw[j4 c,j3 c2,j4 c3]
 exact⟨e,by unfold wcnV;rw[e];rfl⟩
def zoU{m:Mn}{l:List Bt}{h:Hb}(c:wcE m l=0)(c2:¬12<l.length)(c3:¬4096<cnP m h l):wcnE m l h=0/\wcnV m l h=(cnP m h l:Int):=by
 have e:wcnE m l h=0:=by unfold wcnE;rw[j4 c,j3 c2,j3 c3]
 exact⟨e,by unfold wcnV;rw[e];rfl⟩
def zw9{m:Mn}{h:Hb}{l:List Bt}{k:Nat}{b:Bt}(hi:l[k]? =some b):((cnP m h (l.take k):Nat):Int)*((frV m b h).length:Int)=((cnP m h (l.take (k+1)):Nat):Int):=by
 rw[zyd hi];simp
def zrm{m:Mn}{h:Hb}{l:List Bt}{k:Nat}{b:Bt}(hi:l[k]? =some b):chV m (l.take k) h++[frV m b h]=chV m (l.take (k+1)) h:=by
 unfold chV;rw[jA,hi];simp
theorem zei(m:Mn)(l:List Bt)(h:Hb):(chV m l h).length=l.length:=by unfold chV;simp
def rsL(l:List Sg):List Bool:=(l.filter λs=>!decide (s.Kind=3)).map λs=>decide (s.Kind=2)
def zft{l:List Sg}{k:Nat}{s:Sg}(h:l[k]? =some s)(Z:s.Kind=3):rsL (l.take k)=rsL (l.take (k+1)):=by
 unfold rsL;rw[jA,h];simp[Z]
def zhD{l:List Sg}{k:Nat}{s:Sg}(h:l[k]? =some s)(Z:¬s.Kind=3):rsL (l.take k)++[decide (s.Kind=2)]=rsL (l.take (k+1)):=by
 unfold rsL;rw[jA,h];simp[Z]
def zg9(l:List Sg):(rsL l).length<=l.length:=by
 unfold rsL;rw[jO];exact wF _ _
def wisE(m:Mn)(l:List Bt)(r:List Sg):Int:=if wcE m l=0 then ckD m r else wcE m l
def wisB(m:Mn)(l:List Bt)(r:List Sg):Bool:=if wisE m l r=0 then decide (l.map (·.Rest)=rsL r)&&reQ m r (durB l)else false
def zxa{m:Mn}{l:List Bt}{r:List Sg}(c:¬wcE m l=0):wisE m l r=wcE m l/\wisB m l r=false:=by
 have e:wisE m l r=wcE m l:=by unfold wisE;rw[j3 c]
 exact⟨e,by unfold wisB;rw[e,j3 c]⟩
theorem ztt{m:Mn}{l:List Bt}{r:List Sg}(c:wcE m l=0)(c2:¬ckD m r=0):wisE m l r=ckD m r/\wisB m l r=false:=by
 have e:wisE m l r=ckD m r:=by unfold wisE;rw[j4 c]
 exact⟨e,by unfold wisB;rw[e,j3 c2]⟩
theorem ztu{m:Mn}{l:List Bt}{r:List Sg}(c:wcE m l=0)(c2:ckD m r=0):wisE m l r=0/\wisB m l r=(decide (l.map (·.Rest)=rsL r)&&reQ m r (durB l)):=by
 have e:wisE m l r=0:=by unfold wisE;rw[j4 c,c2]
 exact⟨e,by unfold wisB;rw[j4 e]⟩
def zzR{l:List Bt}{R:List Bool}{k:Nat}{b:Bt}{r:Bool}(Z:l[k]? =some b)(hr:R[k]? =some r)(h:(l.take k).map (·.Rest)=R.take k)(e:b.Rest=r):(l.take (k+1)).map (·.Rest)=R.take (k+1):=by
 rw[jA,Z,jA,hr];simp[h,e]
def zxb{l:List Bt}{R:List Bool}{k:Nat}{b:Bt}{r:Bool}(V:l[k]? =some b)(hr:R[k]? =some r)(e:¬b.Rest=r):¬l.map (·.Rest)=R:=λh=>by
 have Z:(l.map (·.Rest))[k]? =some b.Rest:=by rw[jJ,V];rfl
 rw[h,hr]at Z;injection Z with Z;exact e Z.symm
attribute [local irreducible] Pur yA yC Ex X Fn Imp LeV LeB FnO It yH FnW FnOW FnP FnD
attribute [local irreducible] wcE btF ckT ckM ckD frV wcnE wcnV cnP chV durB rdE rdV rsL wisE wisB
def zfZ(m:Mn)(b:Bt)(h:Hb):Fn prog 67 [mnA m,btA b,hbA h] (.tup [zp (fmV m b h),iv (wcE m [b])]):=by
 refine kC func67 ntmps67 (λg w d=>?_);refine gq ?_;refine kS (yF (enc:=btE) (l:=[b]) sl24 zf5 zjZ (by decide) rfl rfl rfl rfl (by decide) (by decide) (λ_=>rfl) rfl) rfl rfl ?_;refine gc (zcm m [b] (by simp)) ?_;refine gd ?_ ?_<;>intro Z
 ·have V:fmV m b h=[]:=by unfold fmV;rw[j3 Z]
  apply ye;refine yq ?_;refine kE ?_;refine k8 (yd (ts:=[(6,zp []),(7,iv (wcE m [b]))]) (hs:=[])) ?_;refine yh ?_ ?_;all_goals(first|exact zE V|rfl)
 have h0:wcE m [b]=0:=by omega
 have V:fmV m b h=frV m b h:=by unfold fmV;rw[j4 h0]
 refine gc (zdI m b h) ?_;refine yh ?_ ?_;all_goals(first|exact j6 (λz=>zp z) V.symm|exact j6 (AV.int .i64) h0.symm)
set_option maxHeartbeats 1000000 in
def zdL(m:Mn)(l:List Bt)(h:Hb)(hl:l.length<=4000000000):Fn prog 18 [mnA m,btsA l,hbA h] (.tup [iv (wcnV m l h),iv (wcnE m l h)]):=by
 have E:(1:Int)=((cnP m h (l.take 0):Nat):Int):=by unfold cnP;rfl
 refine kC func18 ntmps18 (λg w d=>?_);refine gc (zcm m l hl) ?_;refine gd ?_ ?_<;>intro T
 ·have Q:=zjs (h:=h) T;obtain⟨hE,Z⟩:=Q;refine gq ?_;refine yh ?_ ?_;all_goals(first|exact zE Z|exact zE hE|(rw[Z,V];done))
 have h0:wcE m l=0:=by omega
 refine gd ?_ ?_<;>intro xT
 ·have N:=zoT (h:=h) h0 (by omega);obtain⟨hE,Z⟩:=N;refine gq ?_;refine yh ?_ ?_;all_goals(first|exact zE Z|exact zE hE|(rw[Z,V];done))
 have U:¬12<l.length:=by omega
 apply yl;apply ye;refine yi ?_;apply yf;apply ye;refine yq ?_;apply kA;refine ze (λk=>[(3,.ptr 3 0 0 0),(5,.ptr 5 0 0 0),(9,iv ((cnP m h (l.take k):Nat):Int)),(21,btsA l),(22,iv (l.length:Int)),(23,iv (k:Int))]) (λk=>[(3,.box (mnE m) 23),(5,.box (hbE h) 32)]) l.length (λk hk=>?_);refine gd ?_ ?_<;>intro x4
 ·obtain⟨b,H⟩:∃b,l[k]? =some b:=⟨_,lgg (by omega)⟩;have x3:l[(k:Int).toNat]? =some b:=by simpa using H
  have hs:=zw9 (m:=m) (h:=h) H;have hq:=zqi (m:=m) (h:=h) (l:=l) (by omega) (k+1);have hf:=zfs m b h;refine gc (zdI m b h) ?_;refine yo (k+1) (hI:=yg)
 ·obtain rfl:k=l.length:=by omega
  have V:cnP m h (l.take l.length)=cnP m h l:=by rw[j9]
  refine gd ?_ ?_<;>intro x2
  ·have J:=zmH (h:=h) h0 U (by omega);obtain⟨hE,Z⟩:=J;refine gq ?_;refine yh ?_ ?_;all_goals(first|exact zE Z|exact zE hE|(rw[Z,V];done))
  have I:=zoU (h:=h) h0 U (by omega);obtain⟨hE,Z⟩:=I;refine gq ?_;refine yh ?_ ?_;all_goals(first|exact zE Z|exact zE hE|(rw[Z,V];done))
def zie(m:Mn)(l:List Bt)(h:Hb)(hl:l.length<=1000000):Fn prog 85 [mnA m,btsA l,hbA h] (chsA (chV m l h)):=by
 have V:[]=chV m (l.take 0) h:=by unfold chV;rfl
 refine kC func85 ntmps85 (λg w d=>?_);apply ye;iterate 2 refine zZ ?_
 refine ya ?_;apply yG;refine yi ?_;iterate 2 apply yf
 refine kJ (yE zb7 56 1 7 30 rfl rfl) ?_;apply yj;refine yq ?_;apply kA;refine ze (λk=>[(3,.ptr 3 0 0 0),(5,.ptr 5 0 0 0),(7,.own 30),(10,btsA l),(11,iv (l.length:Int)),(12,iv (k:Int))]) (λk=>[(3,.box (mnE m) 23),(5,.box (hbE h) 32),(30,.row zb7 (chV m (l.take k) h) 56 1)]) l.length (λk J=>?_);refine gd ?_ ?_<;>intro U
 ·obtain⟨b,Z⟩:∃b,l[k]? =some b:=⟨_,lgg (by omega)⟩;have T:l[(k:Int).toNat]? =some b:=by simpa using Z
  have hs:=zrm (m:=m) (h:=h) Z;have Q:(chV m (l.take k) h).length<=1000000:=by rw[zei,jL];omega
  refine gq ?_;refine yM (zdI m b h) ?_;refine yz zb7 [frV m b h] ?_;refine gq ?_;refine yo (k+1) (hI:=yg)
 ·obtain rfl:k=l.length:=by omega
  have N:chV m (l.take l.length) h=chV m l h:=by rw[j9]
  apply kK;apply ye;refine yL ?_;refine kE ?_;refine k8 (k9 (k:=30) rfl) ?_;refine gq ?_;all_goals(exact j6 (λz=>chsA z) N)
def zaj(l:List Bt)(R:List Bool)(hl:l.length<=4000000000):Fn prog 77 [btsA l,zaV R,.fn 78 []] (.bool (decide (l.map (·.Rest)=R))):=by
 refine kC func77 ntmps77 (λg w d=>?_);refine gd ?_ ?_<;>intro V
 ·have U:decide (l.map (·.Rest)=R)=false:=by rw[jP];intro e;rw[←e,jO]at V;exact V rfl
  refine gq ?_;all_goals rw[U]
 have Q:l.length=R.length:=by omega
 apply yl;apply yf;apply ye;refine yq ?_;apply kA;refine zV (λk=>[(1,zaV R),(2,.fn 78 []),(15,btsA l),(16,iv (l.length:Int)),(17,iv (k:Int))]) (λk=>[]) (λk=>k<=l.length/\(l.take k).map (·.Rest)=R.take k) l.length (λk J=>?_) (hJ:=by exact⟨by omega,by simp⟩);obtain⟨I,Z⟩:=J;refine gd ?_ ?_<;>intro H
 ·obtain⟨b,N⟩:∃b,l[k]? =some b:=⟨_,lgg (by omega)⟩;have E:l[(k:Int).toNat]? =some b:=by simpa using N
  obtain⟨r,hr⟩:∃r,R[k]? =some r:=⟨_,lgg (by omega)⟩;have xT:R[(k:Int).toNat]? =some r:=by simpa using hr
  refine gc (zlF b r) ?_;refine gd ?_ ?_<;>intro T
  ·have U:decide (l.map (·.Rest)=R)=false:=by rw[jP];exact zxb N hr (by simpa using T)
   refine gq ?_;all_goals rw[U]
  refine gq ?_;refine yo (k+1) (hJ:=by exact⟨by omega,zzR N hr Z (by simpa using T)⟩) (hI:=yg)
 ·obtain rfl:k=l.length:=by omega
  have U:decide (l.map (·.Rest)=R)=true:=by rw[jT];rw[j9,Q,j9]at Z;exact Z
  refine gq ?_;all_goals rw[U]
end Go.Rse
namespace Go.Rse
open Go Go.Proofs Go.Proofs.Tryz
def fE(m:Mn)(v:Int):Int:=(yy m v).N*8/(yy m v).D
def feOk(m:Mn)(v:Int):Bool:=decide ((yy m v).N*8=fE m v*(yy m v).D)&&decide (1<=fE m v)&&decide (fE m v<=648)&&decide (ckT (yy m v)=0)&&decide ((yy m v).D<=8)&&decide ((yy m v).N<=81)&&decide (1<=(yy m v).N)&&
 (decide (v=8)||decide (fE m v=m.p v*fE m (v+1)))&&(decide (¬v=8)||decide (fE m v=1))&&(decide (¬v=1)||decide (128<=fE m v))&&decide (m.p v<=3)
theorem zrn:zgF feOk=true:=by kernel_rfl
structure FE(m:Mn)(v:Int):Prop where
 e:(yy m v).N*8=fE m v*(yy m v).D
 b1:1<=fE m v
 b2:fE m v<=648
 ck:ckT (yy m v)=0
 d:(yy m v).D<=8
 n:(yy m v).N<=81
 n1:1<=(yy m v).N
 p:v=8\/fE m v=m.p v*fE m (v+1)
 l:¬v=8\/fE m v=1
 g:¬v=1\/128<=fE m v
 p3:m.p v<=3
def zzS{m:Mn}{v:Int}(hm:ckM m=0)(Z:1<=v)(V:v<=8):FE m v:=by
 grind[zcd,zrn,feOk,FE]
end Go.Rse
namespace Go.Rse
open Go Go.Proofs Go.RowKit Go.Proofs.Tryz
section
variable{P:Program}{C:Ctx}{st:St}{ty:TypeId}
end
attribute [local irreducible] Pur yA yC Ex X Fn Imp LeV LeB FnO It yH
attribute [local irreducible] yy sumE sumV
end Go.Rse
namespace Go.Rse
open Go Go.Proofs Go.Proofs.Tryz
attribute [local irreducible] Pur yA yC Ex X Fn Imp LeV LeB FnO It yH
attribute [local irreducible] yy durT mulV mulE subV subE
end Go.Rse
namespace Go.Rse
end Go.Rse
namespace Go.Rse
open Go Go.Proofs Go.Sort Go.Proofs.Tryz
def ltT(s t:Tm):Prop:=s.N*t.D<t.N*s.D
instance(s t:Tm):Decidable (ltT s t):=inferInstanceAs(Decidable (_<_))
def ztv(s:Tm):¬ltT s s:=by unfold ltT;omega
end Go.Rse
namespace Go.Rse
open Go Go.Proofs Go.Proofs.Tryz
attribute [local irreducible] Pur yA yC Ex X Fn Imp LeV LeB FnO It yH
attribute [local irreducible] yy durT mulV wdL
end Go.Rse
namespace Go.Rse
open Go Go.Proofs Go.RowKit Go.Proofs.Tryz
attribute [local irreducible] Pur yA yC Ex X Fn Imp LeV LeB FnO It yH
def zvq(l L:List Tm):Bool:=(l.all λx=>decide (ckT x=0)&&decide (x∈L))&&(L.all λx=>decide (x∈l))&&decide (L.Pairwise ltT)
attribute [local irreducible] wdL
end Go.Rse
namespace Go.Rse
open Go Go.Proofs Go.RowKit Go.Proofs.Tryz
attribute [local irreducible] Pur yA yC Ex X Fn Imp LeV LeB FnO It yH
def zdf(X:List Sp)(s:Sp)(t:Tm)(L:List Tm)(q:Nat):List Sp:=if t∈L.take q then X++[s]else X
def zxc(X:List Sp)(s:Sp)(t:Tm)(L:List Tm):X=zdf X s t L 0:=by simp[zdf]
def zro{X:List Sp}{s:Sp}{t:Tm}{L:List Tm}{q:Nat}{u:Tm}(h:L[q]? =some u)(e:u=t)(T:L.Pairwise ltT):zdf X s t L q++[s]=zdf X s t L (q+1):=by
 subst e
 have Q:¬u∈L.take q:=λhm=>by
  obtain⟨i,hi⟩:=jS.1 hm;rw[w8]at hi;split at hi
  ·rename_i Z;have V:=j1.1 hi;have U:=j1.1 h;have:=vC.1 T i q V.1 U.1 Z;rw[V.2,U.2]at this;exact ztv _ this
  ·simp at hi
 simp_all[zdf,jA]
def ztw{X:List Sp}{s:Sp}{t:Tm}{L:List Tm}{q:Nat}{u:Tm}(h:L[q]? =some u)(e:¬u=t):zdf X s t L q=zdf X s t L (q+1):=by
 grind[zdf,List.take_add_one]
def zrp(X:List Sp)(s:Sp)(t:Tm)(L:List Tm)(q:Nat):(zdf X s t L q).length<=X.length+1:=by
 grind[zdf]
def zrq{m:Mn}{v:Int}{t:Tm}{i:Nat}{L:List Tm}(Z:∀x,x∈L↔x∈wdL m v (1+(i:Int)).toNat)(X:List Sp):zdf (X++alI m t v (1+i)) (spOf v (1+(i:Int))) t L L.length=X++alI m t v (1+(i+1)):=by
 grind[zdf,zn2,zng]
attribute [local irreducible] yy durT mulV wdL allE bthE alO alI gI zdf
end Go.Rse
namespace Go.Rse
open Go Go.Proofs Go.Proofs.Tryz
attribute [local irreducible] Pur yA yC Ex X Fn Imp LeV LeB FnO It yH
def inA(l:List Tm)(t:Tm):Nat:=l.findIdx λu=>!decide (cmpV u t<0)
def insT(l:List Tm)(t:Tm):List Tm:=if l[inA l t]? =some t then l else l.take (inA l t)++[t]++l.drop (inA l t)
def zxd(l:List Tm)(t:Tm):inA l t<=l.length:=List.findIdx_le_length
def zrr{l:List Tm}{t:Tm}{k:Nat}(h:∀i u,i<k->l[i]? =some u->cmpV u t<0)(Q:k<=l.length)(U:k=l.length\/∃u,l[k]? =some u/\¬cmpV u t<0):inA l t=k:=by
 unfold inA;rcases U with rfl|⟨u,V,N⟩
 ·refine uF.2 λx hx=>?_
  obtain⟨i,hi⟩:=jS.1 hx;have:=h i x (j1.1 hi).1 hi;simp[this]
 ·have Z:=(j1.1 V).1;refine(List.findIdx_eq Z).2 ⟨?_,λj T=>?_⟩
  ·rw[(j1.1 V).2];simp;omega
  ·have:=h j _ T (lgg (by omega));simp[this]
def zrs(l:List Tm)(t:Tm):(insT l t).length<=l.length+1:=by
 have:=zxd l t;unfold insT;split<;>simp<;>omega
attribute [local irreducible] cmpV
def zdg(v y:Int):Fn prog 175 [iv v,iv y] (spA (spOf v y)):=by
 refine kC func175 ntmps175 (λg w d=>?_);apply ye;refine zb ?_;apply yG;iterate 5 refine ya ?_
 refine kG 5 ?_;refine yn ?_;iterate 2 refine kF ?_
 iterate 2 refine yn ?_
 iterate 2 refine kF ?_
 iterate 4 refine yn ?_
 iterate 2 refine kF ?_
 refine ge ?_;refine kH (.one (.cellA rfl rfl rfl rfl zvE (kB ?_)));all_goals rfl
def zdh(a b:Tm):Fn prog 276 [tmA a,tmA b] (.bool (decide (cmpV a b<0))):=by
 refine kC func276 ntmps276 (λg w d=>?_);refine gc (zb6 a b) ?_;all_goals exact zR
def zgp(m:Mn)(t:Tm):Fn prog 173 [mnA m,tmA t] (iv (bthE m t)):=by
 refine kC func173 ntmps173 (λg w d=>?_);refine gc (zk m) ?_;refine gd ?_ ?_<;>intro Z
 ·refine gc (zQ t) ?_;all_goals(unfold bthE;rw[j4 Z])
 ·refine gq ?_;all_goals(unfold bthE;rw[j3 Z])
def zaT(t:Tm)(n q:Int)(h:-9223372036854775808<=t.N*n/\t.N*n<=9223372036854775807)(Z:-9223372036854775808<=t.D*q/\t.D*q<=9223372036854775807):Fn prog 229 [tmA t,iv n,iv q] (tmsA [tmkT (t.N*n) (t.D*q)]):=by
 refine kC func229 ntmps229 (λg w d=>?_);refine gc (zdb (t.N*n) (t.D*q) (by omega) (by omega)) ?_;refine yz tmE [tmkT (t.N*n) (t.D*q)] ?_;refine yi ?_;refine kE ?_;refine k8 (k9 (k:=22) rfl) ?_;refine gq ?_;all_goals rfl
set_option maxHeartbeats 2000000 in
def zeZ(l:List Tm)(t:Tm)(hl:l.length<=100000):Fn prog 275 [tmsA l,tmA t] (tmsA (insT l t)):=by
 refine kC func275 ntmps275 (λg w d=>?_);apply ye;refine zZ ?_;refine ya ?_;apply yG;refine yi ?_;apply yf;apply kA;refine zV (λk=>[(0,tmsA l),(3,.ptr 3 0 0 0),(5,iv (k:Int))]) (λk=>[(3,.box (tmE t) 83)]) (λk=>k<=l.length/\∀i u,i<k->l[i]? =some u->cmpV u t<0) l.length (λk E=>?_) (hJ:=by exact⟨by omega,λi u h=>absurd h (wU i)⟩) (h0:=yd);obtain⟨T,Z⟩:=E
 have hv:k<l.length->l[k]? =some (l.getD (k:Int).toNat default):=λh=>by
  rw[wC,j8,lgg h];rfl
 refine gq ?_;refine yQ [6,7,8,9,10,11,12,13,14,15,16,17] [0,0,2,7,15,31,31,127,255,31,1023,2047] mo ?_;iterate 5 refine yb ?_
 iterate 5 refine kM ?_
 refine kX (zdh (l.getD (k:Int).toNat default) t) ?_;refine yb ?_;refine yx ?_;refine gd ?_ ?_<;>intro Q
 ·refine gq ?_
  refine yo (k+1) (hJ:=by
   refine⟨by omega,λi u hi N=>?_⟩;rcases wA.1 hi with h|h
   ·exact Z i u h N
   ·subst h;rw[hv (by omega)]at N;injection N with N;subst N;exact Q.2)
 ·have J:inA l t=k:=by
   by_cases V:k<l.length
   ·exact zrr Z T (.inr ⟨_,hv V,by rcases Q with h|h;omega;omega⟩)
   ·exact zrr Z T (.inl (by omega))
  refine gq ?_;refine yQ [20,21,22,23,24,25,26,27,28,29,30,31] [0,0,2,7,15,31,31,127,255,31,1023,2047] mo ?_;iterate 5 refine yb ?_
  iterate 6 refine kM ?_
  refine yb ?_;refine yx ?_;refine gd ?_ ?_<;>intro I
  ·have H:l=insT l t:=by unfold insT;rw[J,hv (by omega),j4 (by rw[I.2])]
   refine gq ?_;all_goals exact j6 tmsA H
  have H:[]++l.take (k:Int).toNat++[t]++l.drop (k:Int).toNat=insT l t:=by
   unfold insT;rw[J,wC,j3 (λe=>?_)];simp;have V:=(j1.1 e).1;rw[hv V]at e;injection e with e;rcases I with h|h;omega;exact h e
  refine gq ?_;refine kY [⟨1,34,tmsA l,[]⟩,⟨2,35,iv (k:Int),[]⟩,⟨3,36,tmsA (l.take (k:Int).toNat),[2,1]⟩,⟨5,38,tmA t,[]⟩,⟨6,39,tmsA [t],[5]⟩,⟨8,41,tmsA l,[]⟩,⟨9,42,iv (k:Int),[]⟩,⟨10,43,tmsA (l.drop (k:Int).toNat),[9,8]⟩] [(0,[]),(4,[2,1,3,0]),(7,[2,1,5,3,0,6,4]),(11,[2,1,5,3,0,9,8,6,4,10,7]),(12,[10,9,8,7,6,5,4,3,2,1,0,11])] (λj=>match j with|0=>⟨[(0,tmsA l),(3,.ptr 3 0 0 0),(5,iv (k:Int))],[(3,.box (tmE t) 83)]⟩|1=>⟨[(0,tmsA l),(3,.ptr 3 0 0 0),(5,iv (k:Int)),(33,.own 33)],[(3,.box (tmE t) 83),(33,.row tmE ([]) 83 2)]⟩|2=>⟨[(0,tmsA l),(3,.ptr 3 0 0 0),(5,iv (k:Int)),(37,.own 33)],[(3,.box (tmE t) 83),(33,.row tmE ([]++l.take (k:Int).toNat) 83 2)]⟩|3=>⟨[(0,tmsA l),(3,.ptr 3 0 0 0),(5,iv (k:Int)),(40,.own 33)],[(3,.box (tmE t) 83),(33,.row tmE ([]++l.take (k:Int).toNat++[t]) 83 2)]⟩|4=>⟨[(0,tmsA l),(3,.ptr 3 0 0 0),(5,iv (k:Int)),(44,.own 33)],[(3,.box (tmE t) 83),(33,.row tmE ([]++l.take (k:Int).toNat++[t]++l.drop (k:Int).toNat) 83 2)]⟩|_=>⟨[(0,tmsA l),(3,.ptr 3 0 0 0),(5,iv (k:Int)),(4,.own 33)],[(3,.box (tmE t) 83),(33,.row tmE ([]++l.take (k:Int).toNat++[t]++l.drop (k:Int).toNat) 83 2)]⟩) mo (by kernel_rfl) (zt (yd)) (λj hj=>?_) (λj c U β hβ=>?_) ?_
  ·rcases j with _|_|_|_|_|_|j
   ·iterate 2 refine⟨.inr ⟨_,rfl,rfl,rfl,rfl,k7 yO⟩,?_⟩
    first
     |refine⟨.inr ⟨_,rfl,rfl,rfl,rfl,k7 (zcS rfl rfl rfl sl50 ty83 (by omega) (by omega))⟩,?_⟩
     |refine⟨.inr ⟨_,rfl,rfl,rfl,rfl,k7 (zdD rfl rfl sl50 ty83 (λ_=>rfl) (by omega) (by omega))⟩,?_⟩
    refine⟨.inr ⟨_,rfl,rfl,rfl,rfl,k7 yO⟩,?_⟩;refine⟨.inr ⟨_,rfl,rfl,rfl,rfl,yF (enc:=tmE) (l:=[t]) sl50 ty83 ze83 (by decide) rfl rfl rfl rfl (by decide) (by decide) (λ_=>rfl) rfl⟩,?_⟩;iterate 2 refine⟨.inr ⟨_,rfl,rfl,rfl,rfl,k7 yO⟩,?_⟩
    first
     |refine⟨.inr ⟨_,rfl,rfl,rfl,rfl,k7 (zG rfl rfl rfl sl50 ty83 (by omega) (by omega))⟩,?_⟩
     |refine⟨.inr ⟨_,rfl,rfl,rfl,rfl,k7 (zah rfl rfl sl50 ty83 (λ_=>rfl) (by omega) (by omega))⟩,?_⟩
    exact True.intro
   ·iterate 2 refine⟨.inr ⟨_,rfl,rfl,rfl,rfl,k7 yO⟩,?_⟩
    first
     |refine⟨.inr ⟨_,rfl,rfl,rfl,rfl,k7 (zcS rfl rfl rfl sl50 ty83 (by omega) (by omega))⟩,?_⟩
     |refine⟨.inr ⟨_,rfl,rfl,rfl,rfl,k7 (zdD rfl rfl sl50 ty83 (λ_=>rfl) (by omega) (by omega))⟩,?_⟩
    refine⟨.inr ⟨_,rfl,rfl,rfl,rfl,k7 yO⟩,?_⟩;refine⟨.inr ⟨_,rfl,rfl,rfl,rfl,yF (enc:=tmE) (l:=[t]) sl50 ty83 ze83 (by decide) rfl rfl rfl rfl (by decide) (by decide) (λ_=>rfl) rfl⟩,?_⟩;iterate 2 refine⟨.inr ⟨_,rfl,rfl,rfl,rfl,k7 yO⟩,?_⟩
    first
     |refine⟨.inr ⟨_,rfl,rfl,rfl,rfl,k7 (zG rfl rfl rfl sl50 ty83 (by omega) (by omega))⟩,?_⟩
     |refine⟨.inr ⟨_,rfl,rfl,rfl,rfl,k7 (zah rfl rfl sl50 ty83 (λ_=>rfl) (by omega) (by omega))⟩,?_⟩
    exact True.intro
   ·(iterate 3 refine⟨.inl rfl,?_⟩);refine⟨.inr ⟨_,rfl,rfl,rfl,rfl,k7 yO⟩,?_⟩;refine⟨.inr ⟨_,rfl,rfl,rfl,rfl,yF (enc:=tmE) (l:=[t]) sl50 ty83 ze83 (by decide) rfl rfl rfl rfl (by decide) (by decide) (λ_=>rfl) rfl⟩,?_⟩;iterate 2 refine⟨.inr ⟨_,rfl,rfl,rfl,rfl,k7 yO⟩,?_⟩
    first
     |refine⟨.inr ⟨_,rfl,rfl,rfl,rfl,k7 (zG rfl rfl rfl sl50 ty83 (by omega) (by omega))⟩,?_⟩
     |refine⟨.inr ⟨_,rfl,rfl,rfl,rfl,k7 (zah rfl rfl sl50 ty83 (λ_=>rfl) (by omega) (by omega))⟩,?_⟩
    exact True.intro
   ·(iterate 5 refine⟨.inl rfl,?_⟩);iterate 2 refine⟨.inr ⟨_,rfl,rfl,rfl,rfl,k7 yO⟩,?_⟩
    first
     |refine⟨.inr ⟨_,rfl,rfl,rfl,rfl,k7 (zG rfl rfl rfl sl50 ty83 (by omega) (by omega))⟩,?_⟩
     |refine⟨.inr ⟨_,rfl,rfl,rfl,rfl,k7 (zah rfl rfl sl50 ty83 (λ_=>rfl) (by omega) (by omega))⟩,?_⟩
    exact True.intro
   ·exact yJ
   ·exact yJ
   ·exact absurd (show j+6<=5 from hj) (by omega)
  ·rcases j with _|_|_|_|_|j
   ·obtain rfl:(0,[])=c:=by injection U
    refine yw rfl (yr (st0:=⟨[(34,.ifb (β 1) (tmsA l)),(35,.ifb (β 2) (iv (k:Int))),(36,.ifb (β 3) (tmsA (l.take (k:Int).toNat))),(38,.ifb (β 5) (tmA t)),(39,.ifb (β 6) (tmsA [t])),(41,.ifb (β 8) (tmsA l)),(42,.ifb (β 9) (iv (k:Int))),(43,.ifb (β 10) (tmsA (l.drop (k:Int).toNat))),(0,tmsA l),(3,.ptr 3 0 0 0),(5,iv (k:Int))],[(3,.box (tmE t) 83)]⟩) (ym) ?_);refine yC.imp (yS (zD (k:=33) (enc:=tmE) (l:=([]:List Tm)) sl50 ty83 ze83 (by decide) rfl rfl rfl rfl (by decide) (by decide) (λ_=>rfl) rfl) rfl rfl) (ym)
   ·obtain rfl:(4,[2,1,3,0])=c:=by injection U
    refine yw rfl (yr (st0:=⟨[(34,tmsA l),(35,iv (k:Int)),(36,tmsA (l.take (k:Int).toNat)),(38,.ifb (β 5) (tmA t)),(39,.ifb (β 6) (tmsA [t])),(41,.ifb (β 8) (tmsA l)),(42,.ifb (β 9) (iv (k:Int))),(43,.ifb (β 10) (tmsA (l.drop (k:Int).toNat))),(0,tmsA l),(3,.ptr 3 0 0 0),(5,iv (k:Int)),(33,.own 33)],[(3,.box (tmE t) 83),(33,.row tmE ([]) 83 2)]⟩) (ym) ?_);refine yC.imp (zv rfl rfl rfl SlK.h TiK.h (by decide) (by decide) (λ_=>rfl) (λ_=>rfl) (by first|omega|(simp;done)|(simp;omega)|(simp_all;omega)) rfl) (ym)
   ·obtain rfl:(7,[2,1,5,3,0,6,4])=c:=by injection U
    refine yw rfl (yr (st0:=⟨[(34,tmsA l),(35,iv (k:Int)),(36,tmsA (l.take (k:Int).toNat)),(38,tmA t),(39,tmsA [t]),(41,.ifb (β 8) (tmsA l)),(42,.ifb (β 9) (iv (k:Int))),(43,.ifb (β 10) (tmsA (l.drop (k:Int).toNat))),(0,tmsA l),(3,.ptr 3 0 0 0),(5,iv (k:Int)),(37,.own 33)],[(3,.box (tmE t) 83),(33,.row tmE ([]++l.take (k:Int).toNat) 83 2)]⟩) (ym) ?_);refine yC.imp (zv rfl rfl rfl SlK.h TiK.h (by decide) (by decide) (λ_=>rfl) (λ_=>rfl) (by first|omega|(simp;done)|(simp;omega)|(simp_all;omega)) rfl) (ym)
   ·obtain rfl:(11,[2,1,5,3,0,9,8,6,4,10,7])=c:=by injection U
    refine yw rfl (yr (st0:=⟨[(34,tmsA l),(35,iv (k:Int)),(36,tmsA (l.take (k:Int).toNat)),(38,tmA t),(39,tmsA [t]),(41,tmsA l),(42,iv (k:Int)),(43,tmsA (l.drop (k:Int).toNat)),(0,tmsA l),(3,.ptr 3 0 0 0),(5,iv (k:Int)),(40,.own 33)],[(3,.box (tmE t) 83),(33,.row tmE ([]++l.take (k:Int).toNat++[t]) 83 2)]⟩) (ym) ?_);refine yC.imp (zv rfl rfl rfl SlK.h TiK.h (by decide) (by decide) (λ_=>rfl) (λ_=>rfl) (by first|omega|(simp;done)|(simp;omega)|(simp_all;omega)) rfl) (ym)
   ·obtain rfl:(12,[10,9,8,7,6,5,4,3,2,1,0,11])=c:=by injection U
    refine yw rfl (yr (st0:=⟨[(34,tmsA l),(35,iv (k:Int)),(36,tmsA (l.take (k:Int).toNat)),(38,tmA t),(39,tmsA [t]),(41,tmsA l),(42,iv (k:Int)),(43,tmsA (l.drop (k:Int).toNat)),(0,tmsA l),(3,.ptr 3 0 0 0),(5,iv (k:Int)),(44,.own 33)],[(3,.box (tmE t) 83),(33,.row tmE ([]++l.take (k:Int).toNat++[t]++l.drop (k:Int).toNat) 83 2)]⟩) (ym) ?_);refine yC.imp (yS (k7 (zcs rfl)) rfl rfl) (ym)
   ·exact absurd U (by simp)
  refine kE ?_;refine k8 (k9 (k:=33) rfl) ?_;refine gq ?_;all_goals exact j6 tmsA H
end Go.Rse
namespace Go.Rse
open Go Go.Proofs Go.Proofs.Tryz
attribute [local irreducible] Pur yA yC Ex X Fn Imp LeV LeB FnO It yH
def rlO(f:Tm->List Tm)(g:Nat->Tm):Nat->List Tm
 |0=>[]
 |j+1=>(f (g j)).foldl insT (rlO f g j)
def rlM(m:Mn)(v k:Int):Int:=if m.p k=3 then(if k=v then 1 else 2)else 0
def rlG(m:Mn)(v k:Int)(t:Tm)(j:Nat):Bool:=decide ((j:Int)<=rlM m v k)&&decide (0<(lsT m k t j).N)
def rlK(m:Mn)(k:Int)(t:Tm)(j:Nat):Bool:=decide (cmpV (yy m (k+1)) (lsT m k t j)<0)
def rlN(m:Mn)(v k:Int)(t:Tm):Nat->Nat->Nat
 |0,j=>j
 |f+1,j=>if rlG m v k t j=true then(if rlK m k t j=true then rlN m v k t f (j+1)else j+1)else j
def rlL(m:Mn)(v:Int):Nat->Int->Tm->List Tm
 |0,k,t=>[t]
 |n+1,k,t=>rlO (rlL m v n (k+1)) (lsT m k t) (rlN m v k t 3 0)
def zxe(m:Mn)(v k:Int):0<=rlM m v k/\rlM m v k<=2:=by
 unfold rlM;split
 ·split<;>omega
 ·omega
def zvr{m:Mn}{v k:Int}{t:Tm}:∀(j i f:Nat),i+f=3->i<=j->(∀q,q<j->rlG m v k t q=true/\rlK m k t q=true)->rlG m v k t j=false->j<=3->rlN m v k t f i=j
 |j,i,0,h,T,Z,V,U=>by unfold rlN;omega
 |j,i,f+1,h,T,Z,V,U=>by
  unfold rlN;rcases wD i j with hl|hl
  ·rw[j4 (Z i hl).1,j4 (Z i hl).2];exact zvr j (i+1) f (by omega) (by omega) Z V U
  ·have:i=j:=by omega
   subst this;rw[j3 (by rw[V];simp)]
def zvs{m:Mn}{v k:Int}{t:Tm}:∀(j i f:Nat),i+f=3->i<=j->(∀q,q<j->rlG m v k t q=true/\rlK m k t q=true)->rlG m v k t j=true->rlK m k t j=false->j<=2->rlN m v k t f i=j+1
 |j,i,0,h,Q,Z,V,U,T=>by omega
 |j,i,f+1,h,Q,Z,V,U,T=>by
  unfold rlN;rcases wD i j with hl|hl
  ·rw[j4 (Z i hl).1,j4 (Z i hl).2];exact zvs j (i+1) f (by omega) (by omega) Z V U T
  ·have:i=j:=by omega
   subst this;rw[j4 V,j3 (by rw[U];simp)]
def zhE:∀(l out:List Tm),(l.foldl insT out).length<=out.length+l.length
 |[],out=>by simp
 |t::r,out=>by
  have Z:=zhE r (insT out t);have V:=zrs out t;simp only[xC,jY];omega
def zlG{f:Tm->List Tm}{g:Nat->Tm}{B:Nat}(h:∀t,(f t).length<=B):∀j,(rlO f g j).length<=j*B
 |0=>by simp[rlO]
 |j+1=>by
  have Z:=zlG (g:=g) h j;have V:=zhE (f (g j)) (rlO f g j);have U:=h (g j);have T:(j+1)*B=j*B+B:=uZ ..;unfold rlO;omega
def zrt(m:Mn)(v k:Int)(t:Tm):∀f j,rlN m v k t f j<=j+f
 |0,j=>jE _
 |f+1,j=>by
  have:=zrt m v k t f (j+1);unfold rlN;split
  ·split<;>omega
  ·omega
def ziv(m:Mn)(v:Int):∀n k t,(rlL m v n k t).length<=3^n
 |0,k,t=>by simp[rlL]
 |n+1,k,t=>by
  have Z:=zlG (g:=lsT m k t) (ziv m v n (k+1)) (rlN m v k t 3 0);have V:=zrt m v k t 3 0;have U:3^(n+1)=3*3^n:=by rw[Nat.pow_succ,wM]
  have T:rlN m v k t 3 0*3^n<=3*3^n:=jU _ (by omega);unfold rlL;omega
def zpM{l out:List Tm}{i:Nat}{u:Tm}(h:l[i]? =some u):insT ((l.take i).foldl insT out) u=(l.take (i+1)).foldl insT out:=by
 rw[jA,h,List.foldl_append];rfl
attribute [local irreducible] cmpV subV yy insT rlN rlL
set_option maxHeartbeats 4000000 in
def zgq(m:Mn)(hm:ckM m=0)(v:Int)(h1:1<=v)(n:Nat)(k:Int)(t:Tm)(hn:(5-k).toNat=n)(w2:1<=k)(v9:k<=8):Fn prog 230 [mnA m,iv v,iv k,tmA t] (tmsA (rlL m v n k t)):=by
 induction n using Nat.strongRecOn generalizing k t
 rename_i n ih;refine kC func230 ntmps230 (λg w d=>?_);refine gd ?_ ?_<;>intro v8
 ·have x4:n=0:=by omega
  subst x4;have hV:[t]=rlL m v 0 k t:=by unfold rlL;rfl
  refine gq ?_;refine yz tmE [t] ?_;refine yi ?_;refine kE ?_;refine k8 (k9 (k:=19) rfl) ?_;refine gq ?_;all_goals(first|exact j6 tmsA hV|rfl)
 obtain⟨q,rfl⟩:∃q,n=q+1:=⟨n-1,by omega⟩;have v5:=zxe m v k;apply yl;apply ye;refine yi ?_;refine zck ⟨[(1,iv v),(2,iv k),(4,.ptr 4 0 0 0),(7,.ptr 7 0 0 0),(9,iv (rlM m v k))],[(4,.box (mnE m) 23),(7,.box (tmE t) 83)]⟩ (λU=>?_) ?_
 ·refine gc (y4 m k) ?_;refine gd ?_ ?_<;>intro T
  ·have H:(0:Int)=rlM m v k:=by unfold rlM;rw[j3 T]
   apply yj;refine yi ?_;exact kJ yg U
  ·refine gd ?_ ?_<;>intro E
   ·have H:(1:Int)=rlM m v k:=by unfold rlM;rw[j4 (by simpa using T),j4 E]
    apply yj;refine yi ?_;exact kJ yg U
   ·have H:(2:Int)=rlM m v k:=by unfold rlM;rw[j4 (by simpa using T),j3 E]
    apply yl;exact kJ yg U
 refine gq ?_;refine yM (zM hm (by omega) (by omega):Fn _ _ [mnA m,iv (k+1)] _) ?_;iterate 3 refine ya ?_
 refine zb ?_;refine kI ?_;refine ya ?_;apply yG;refine yi ?_;apply yf;apply ye;refine yi ?_;apply kA;have v4:[]=rlO (rlL m v q (k+1)) (lsT m k t) 0:=rfl;refine zV (λj=>[(1,iv v),(2,iv k),(4,.ptr 4 0 0 0),(7,.ptr 7 0 0 0),(9,iv (rlM m v k)),(10,.ptr 10 0 0 0),(12,tmsA (rlO (rlL m v q (k+1)) (lsT m k t) j)),(13,iv (j:Int))]) (λj=>[(4,.box (mnE m) 23),(7,.box (tmE (lsT m k t j)) 83),(10,.box (tmE (yy m (k+1))) 83)]) (λj=>j<=3/\∀q,q<j->rlG m v k t q=true/\rlK m k t q=true) 3 (λj hk=>?_) (hJ:=by exact⟨by omega,λq h=>absurd h (wU q)⟩);obtain⟨xT,hJ⟩:=hk;have v3:=zlG (g:=lsT m k t) (ziv m v q (k+1)) j;apply yf;apply ye;iterate 3 refine ya ?_
 refine kG 3 ?_;refine yn ?_;iterate 3 refine kF ?_
 refine gf ?_ ?_<;>intro Q
 ·have V:rlG m v k t j=true:=by unfold rlG;rw[jH Q.1,jH Q.2];rfl
  have x3:j<=2:=by omega
  refine gq ?_;refine yM (ih q (by omega) (k+1) (lsT m k t j) (by omega) (by omega) (by omega)) ?_;refine yi ?_;apply yf;apply ye;refine yi ?_;apply kA;obtain⟨D,hD⟩:∃D,D=rlL m v q (k+1) (lsT m k t j):=⟨_,rfl⟩;have x2:=ziv m v q (k+1) (lsT m k t j);have v1:3^q<=3^3:=vJ (by decide) (by omega);have v0:3^3=27:=rfl;have u3:j*3^q<=3*3^q:=jU _ xT;rw[←hD]at x2;have u2:=hD.symm;have x0:rlO (rlL m v q (k+1)) (lsT m k t) j=(D.take 0).foldl insT (rlO (rlL m v q (k+1)) (lsT m k t) j):=by rw[vX];rfl
  refine ze (λi=>[(1,iv v),(2,iv k),(4,.ptr 4 0 0 0),(7,.ptr 7 0 0 0),(9,iv (rlM m v k)),(10,.ptr 10 0 0 0),(12,tmsA ((D.take i).foldl insT (rlO (rlL m v q (k+1)) (lsT m k t) j))),(13,iv (j:Int)),(14,tmsA D),(15,iv (i:Int))]) (λi=>[(4,.box (mnE m) 23),(7,.box (tmE (lsT m k t j)) 83),(10,.box (tmE (yy m (k+1))) 83)]) D.length (λi hk=>?_);refine gd ?_ ?_<;>intro u1
  ·obtain⟨u,hu⟩:∃u,D[i]? =some u:=⟨_,lgg (by omega)⟩;have k5:D[(i:Int).toNat]? =some u:=by simpa using hu
   have J:=zpM (out:=rlO (rlL m v q (k+1)) (lsT m k t) j) hu;have k4:=zhE (D.take i) (rlO (rlL m v q (k+1)) (lsT m k t) j);have k3:(D.take i).length<=D.length:=by rw[jL];omega
   refine gc (zeZ ((D.take i).foldl insT (rlO (rlL m v q (k+1)) (lsT m k t) j)) u (by omega)) ?_;refine yo (i+1) (hI:=yg)
  ·have x1:i=D.length:=by omega
   subst x1;have J:(D.take D.length).foldl insT (rlO (rlL m v q (k+1)) (lsT m k t) j)=rlO (rlL m v q (k+1)) (lsT m k t) (j+1):=by rw[j9,hD];rfl
   refine gc (zdh (yy m (k+1)) (lsT m k t j)) ?_;refine gd ?_ ?_<;>intro j2
   ·have I:rlK m k t j=false:=by unfold rlK;rw[jD (by omega)]
    have Z:rlO (rlL m v q (k+1)) (lsT m k t) (j+1)=rlL m v (q+1) k t:=by
     conv=>rhs;unfold rlL
     rw[zvs j 0 3 rfl (wH _) hJ V I x3]
    refine gq ?_;all_goals(first|exact j6 tmsA Z|exact j6 tmsA (J.trans Z))
   have I:rlK m k t j=true:=by unfold rlK;rw[jH (by omega)]
   refine gc (zac (lsT m k t j) (yy m (k+1))) ?_
   refine yo (j+1) (hJ:=by
    refine⟨by omega,λq h=>?_⟩;rcases wA.1 h with h|h
    ·exact hJ q h
    ·subst h;exact⟨V,I⟩) (hI:=yg)
 ·have V:rlG m v k t j=false:=by
   unfold rlG;rcases Q with h|h
   ·rw[jD (by omega)];rfl
   ·rw[jD (show¬0<(lsT m k t j).N by omega)];simp
  have Z:rlO (rlL m v q (k+1)) (lsT m k t) j=rlL m v (q+1) k t:=by
   conv=>rhs;unfold rlL
   rw[zvr j 0 3 rfl (wH _) hJ V xT]
  refine gq ?_;all_goals(first|exact j6 tmsA Z|exact j6 tmsA (J.trans Z))
end Go.Rse
