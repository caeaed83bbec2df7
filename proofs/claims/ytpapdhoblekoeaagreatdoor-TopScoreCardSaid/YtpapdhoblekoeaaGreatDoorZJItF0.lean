/-
  Plain.
-/
import Derived.Test.YtpapdhoblekoeaaGreatDoorZJLvl13
import Derived.Test.YtpapdhoblekoeaaGreatDoorZSec2
set_option linter.all false
set_option maxHeartbeats 4000000
namespace Go.Rse
open Go Go.Proofs Go.Proofs.Tryz
attribute [local irreducible] Pur yy yu Ex X Fn Imp LeV LeB FnO It yA
section
variable{l:List Sg}
def zlg{l:List Sg}{c:List Int}{a:List Bool}{d:List Tm}:∀(n:Nat){i:Nat}{x:Ite},(itK l c a d n)[i]? =some x->∃(k:Nat)(s:Sg),k<n/\l[k]? =some s/\¬s.Kind=3/\ntN l k=i/\x=itOf k s (c.getD i 0) (a.getD i false) (d.getD i ⟨0,0⟩)
 |0,i,x,h=>by simp[itK]at h
 |n+1,i,x,h=>by
  cases hs:l[n]? with
  |none=>
   simp only[itK,hs]at h;obtain⟨k,s,h1,Q⟩:=zlg n h;exact⟨k,s,aa,Q⟩
  |some s=>
   by_cases K:s.Kind=3
   ·rw[←zox hs K]at h;obtain⟨k,s,h1,Q⟩:=zlg n h;exact⟨k,s,aa,Q⟩
   ·simp only[itK,hs,j8 K]at h;rw[uQ]at h;split at h
    ·obtain⟨k,s,h1,Q⟩:=zlg n h;exact⟨k,s,aa,Q⟩
    ·rename_i hi;have N:=(j5.1 h).1;rw[ziC]at hi N h;have e:i=ntN l n:=by simp at N;omega
     subst e;simp at h;exact⟨n,s,aa,hs,K,rfl,h.symm⟩
def zw3{k j:Nat}(h:ntN l j<ntN l k):j<k:=by
 rcases wH j k with h1|h1
 ·exact h1
 ·have:=ziB l j k h1;omega
end
section
end
section
variable{L:List (List Int)}{c i:Int}{k:Nat}{l:List Sg}{m:Mn}{p:Sg}
def ofG:List (List Int)->Int->List Int
 |[],_=>[]
 |x::R,n=>ofG R (n/(x.length:Int))++[x.getD (n%(x.length:Int)).toNat 0]
def cntG:List (List Int)->Int
 |[]=>1
 |x::R=>(x.length:Int)*cntG R
def zoH:∀(R:List (List Int))(n:Int),(ofG R n).length=R.length
 |[],_=>rfl
 |x::R,n=>by simp[ofG,zoH R]
def Asc(x:List Int):Prop:=(∃a,x=[a])\/(∃a b,x=[a,b]/\a<b)
def Asc.len{x:List Int}(h:Asc x):x.length=1\/x.length=2:=by
 rcases h with⟨a,rfl⟩|⟨a,b,rfl,_⟩;all_goals simp_all
inductive ChG:List (List Int)->List Int->Prop
 |nil:ChG [] []
 |snoc{x:List Int}{R:List (List Int)}{r:List Int}{v:Int}(hv:v∈x)(h:ChG R r):ChG (x::R) (r++[v])
def zrc:∀{R:List (List Int)},(∀x∈R,Asc x)->∀{n:Int},0<=n->n<cntG R->ChG R (ofG R n)
 |[],_,n,_,_=>.nil
 |x::R,h,n,h0,h1=>by
  have Q:∀y∈R,Asc y:=λy N=>h y (by simp[N])
  simp only[cntG]at h1;simp only[ofG];have hl:=(h x ah).len;have K:0<=n%(x.length:Int):=vH _ aa;have H:n%(x.length:Int)<(x.length:Int):=uN _ aa;refine .snoc ?_ (zrc Q (uL h0 aa) (Int.ediv_lt_of_lt_mul aa (by rw[Int.mul_comm];exact h1)));simp_all
def zt3{R:List (List Int)}{r:List Int}(N:ChG R r):(∀x∈R,Asc x)->∃n:Int,0<=n/\n<cntG R/\ofG R n=r:=by
 induction N with
 |nil=>exactλ_=>⟨0,aa,by simp[cntG],rfl⟩
 |@snoc x R r v Q _ ih=>
  intro h;have K:∀y∈R,Asc y:=λy H=>h y (by simp[H])
  obtain⟨n,h0,h1,E⟩:=ih K;rcases h x ah with⟨a,rfl⟩|⟨a,b,rfl,G⟩
  ·simp_all[cntG,ofG]
  ·simp at Q;rcases Q with rfl|rfl
   ·refine⟨2*n,aa,by simp only[cntG,w5,uM];omega,?_⟩;simp_all[ofG]
   ·refine⟨2*n+1,aa,by simp only[cntG,w5,uM];omega,?_⟩
    grind[ofG]
def zoI(L:List (List Int))(n:Int):∀(d j:Nat),j+d=L.length->zbE L n L.length=ofG (L.take d).reverse (ofN L n j)++zbE L n j
 |0,j,h=>by
  simp_all[ofG]
 |d+1,j,h=>by
  have Q:L[d]? =some L[d]:=lgg aa
  have N:L.getD (L.length-1-j) []=L[d]:=by
   grind
  rw[zoI L n d (j+1) aa,jK,Q];simp only[Option.toList_some,List.reverse_append,List.reverse_cons,List.reverse_nil,xX,wY,ofG,zbE,ofN,ofV,N,u4]
def zrd(L:List (List Int))(n:Int):ofD L n=ofG L.reverse n:=by
 have:=zoI L n L.length 0 aa;simp_all[ofD,zbE,ofN]
def zhs:∀(A B:List (List Int)),cntG (A++B)=cntG A*cntG B
 |[],B=>by simp[cntG]
 |x::A,B=>by simp[cntG,zhs,Int.mul_assoc]
theorem zmt:∀(L:List (List Int)),cntG L.reverse=cntG L
 |[]=>rfl
 |x::L=>by
  simp[zhs,zmt,cntG,Int.mul_comm]
theorem zkg:∀{L:List (List Int)}{n:Int},cntF n L<=64->cntF n L=n*cntG L
 |[],n,h=>by simp[cntF,cntG]
 |x::L,n,h=>by
  unfold cntF at h⊢;split at h
  ·omega
  ·rename_i h1;rw[j8 h1,zkg h]
   grind[cntG]
def zw4(h:cntE m l=0):cntV m l=cntG (mnsD m l).reverse:=by
 have Q:=zpq h
 grind[cntE,cntV,zmt,zkg]
def zw5{L:List (List Int)}{c:List Int}(hl:L.length=c.length)(h:∀(i:Nat)x v,L[i]? =some x->c[i]? =some v->v∈x):∀k,k<=L.length->ChG (L.take k).reverse (c.take k)
 |0,_=>by simpa using ChG.nil
 |k+1,hk=>by
  have hx:L[k]? =some L[k]:=lgg aa;have Q:c[k]? =some c[k]:=lgg aa;rw[jK,jK,hx,Q];simp only[Option.toList_some,List.reverse_append,List.reverse_cons,List.reverse_nil,xX,wY];exact .snoc (h k _ _ hx Q) (zw5 hl h k aa)
theorem zy6{R:List (List Int)}{r:List Int}(Q:ChG R r):r.length=R.length/\∀(i:Nat)x v,R.reverse[i]? =some x->r[i]? =some v->v∈x:=by
 induction Q<;>grind
def zw6{r:List Int}(Q:ChG L.reverse r):L.length=r.length/\chOk r L:=by
 grind[zy6,List.reverse_reverse,zja]
def zre(x:List Int)(c:Int):Prop:=(∃a,x=[a]/\c=a)\/(∃a b,x=[a,b]/\a<b/\(c=a\/c=b))
theorem zmu(Q:ckM m=0)(h1:1<=p.Value):zre (mngR m p) (zij m l i p):=by
 have N:=znW (m:=m) h1;unfold zij mngR
 grind[ownV,zre]
def zrf(H:ckM m=0)(Q:ckD m l=0){x:List Int}(hx:(mnsD m l)[k]? =some x)(K:(zae m l)[k]? =some c):zre x c:=by
 rw[mnsD,j9]at hx;rw[zae,j9]at K;cases N:(zh l l.length)[k]? with
 |none=>simp[N]at hx
 |some i=>
  simp[N]at hx K;obtain⟨j,s,p,h1,G,E,h4,h5⟩:=zuR Q (j6 N)
  grind[zzW,mnAt,zdK,mngs,zso,zmu]
def zfV(m:Mn)(l:List Sg):(zae m l).length=(mnsD m l).length:=by
 unfold zae mnsD;simp
def zrg(N:ckM m=0)(K:ckD m l=0):∀x∈(mnsD m l).reverse,Asc x:=by
 intro x hx;rw[List.mem_reverse]at hx;obtain⟨k,hk⟩:=jL.1 hx;have Q:=zfV m l;obtain⟨c,H⟩:∃c,(zae m l)[k]? =some c:=⟨_,lgg (by have:=(j5.1 hk).1;omega)⟩;rcases zrf N K hk H with⟨a,rfl,_⟩|⟨a,b,rfl,G,_⟩;all_goals grind[Asc]
def zoJ(N:ckM m=0)(K:ckD m l=0):ChG (mnsD m l).reverse (zae m l):=by
 have Q:=zfV m l
 have h:=zw5 (L:=mnsD m l) (c:=zae m l) Q.symm (λi x v hx H=>by
  rcases zrf N K hx H with⟨a,rfl,rfl⟩|⟨a,b,rfl,G,rfl|rfl⟩<;>simp) (mnsD m l).length (jG _)
 grind
end
section
variable{i:Nat}{l:List Sg}{m:Mn}{n:Int}
def zrh(h:cntE m l=0)(hi:(i:Int)<cntV m l):ofE m l (i:Int)=0:=by
 unfold ofE;rw[j7 h,j8 aa]
def zy7(h:ofE m l n=0):(ofL m l n).length=(mnsD m l).length:=by
 unfold ofL;rw[j7 h,zrd,zoH];simp
def zt4(N:ckM m=0)(Q:ckD m l=0)(h:cntE m l=0):∃n:Nat,(n:Int)<cntV m l/\ofL m l n=zae m l:=by
 obtain⟨n,h0,h1,K⟩:=zt3 (zoJ N Q) (zrg N Q);rw[←zw4 h]at h1;obtain⟨k,rfl⟩:∃k:Nat,n=k:=⟨n.toNat,aa⟩;refine⟨k,h1,?_⟩;unfold ofL;rw[j7 (zrh h h1),zrd,K]
def zri(N:ckM m=0)(Q:ckD m l=0)(he:ofE m l n=0):mkE m l (ofL m l n)=0:=by
 obtain⟨a,h0,h1⟩:=zB8 he;have h:=zw6 (zrc (zrg N Q) h0 (by rw[←zw4 a];exact h1));unfold mkE ofL;rw[j7 Q,j7 he,zrd,j7 h]
def zoK(m:Mn)(l:List Sg):(mnsD m l).length<=l.length:=by
 unfold mnsD;rw[jD];exact zcm l l.length
end
section
end
section
end
section
variable{l:List Sg}{m:Mn}
def zoL(N:ckM m=0)(Q:ckD m l=0):mkE m l (zae m l)=0:=by
 unfold mkE;rw[j7 Q,j7 (zw6 (zoJ N Q))]
end
section
attribute [local irreducible] mkC mkA mkE duV itK itOf ckD mulV mulE
def zfW(m:Mn)(l:List Sg)(ch:List Int)(hl:l.length<=1000)(hn:NC l):Fn prog 107 [mnA m,sgsA l,yj ch,yj []] (.tup [itsA (itmV m l ch),iv (mkE m l ch)]):=by
 refine bB func107 ntmps107 (λg w d=>?_);refine gc (zcT m l hl) ?_;refine gd ?_ ?_<;>intro w2
 ·have hE:mkE m l ch=ckD m l:=zqT w2;have hV:itmV m l ch=[]:=zqU (by rw[hE];exact w2);apply yc;refine yo ?_;refine bC ?_;refine yi (yh (ts:=[(8,itsA []),(9,iv (ckD m l))]) (hs:=[])) ?_;refine yn ?_ ?_;all_goals(first|exact zE hV|exact zE hE|rfl|exact zE K)
 refine gc (zmO m l hl ch) ?_;refine gd ?_ ?_<;>intro K
 ·have hV:itmV m l ch=[]:=zqU K;apply yc;refine yo ?_;refine bC ?_;refine yi (yh (ts:=[(8,itsA []),(9,iv (mkE m l ch))]) (hs:=[])) ?_;refine yn ?_ ?_;all_goals(first|exact zE hV|exact zE hE|rfl|exact zE K)
 refine gc (zk9 m l hl hn) ?_;refine gd ?_ ?_<;>intro v3
 ·exact absurd (znx K) v3
 have hV:=zny K;apply yf;apply yc;refine yk ?_;iterate 2 apply ye
 refine yl (yz itE 241 12 15 201 rfl rfl) ?_;apply yd;refine yo ?_;apply kX;have k7:=zBr l (mkC m l ch) (mkA m l ch) (duV m l);refine y9 [11,12,14,15,47,48] (λk zz=>(49,iv (k:Int))::zz) [] (λk zz=>(201,.row itE (itK l (mkC m l ch) (mkA m l ch) (duV m l) k) 241 12)::zz) l.length (λk hk=>?_);refine gd ?_ ?_<;>intro k6
 ·have v2:=@getX _ l k aa;obtain⟨s,hs,k5⟩:=v2;have x2:=ziC l (mkC m l ch) (mkA m l ch) (duV m l) k;have k4:=zfv l k;refine gd ?_ ?_<;>intro x1
  ·have H:=zox (c:=mkC m l ch) (a:=mkA m l ch) (d:=duV m l) hs x1;refine gq ?_;refine yr (k+1)
  obtain⟨x,y,z,hx,hy,hz,v9,k3,hm,v1,v8,-⟩:=zwT K hs x1;have H:=zyT hs x1 hx hy hz;have k2:(mkC m l ch)[((itK l (mkC m l ch) (mkA m l ch) (duV m l) k).length:Int).toNat]? =some x:=by rw[x2];simpa using hx
  have j4:(mkA m l ch)[((itK l (mkC m l ch) (mkA m l ch) (duV m l) k).length:Int).toNat]? =some y:=by rw[x2];simpa using hy
  have j3:(duV m l)[((itK l (mkC m l ch) (mkA m l ch) (duV m l) k).length:Int).toNat]? =some z:=by rw[x2];simpa using hz
  apply yf;apply yc;refine yo ?_;refine zbm ⟨[(11,yj (mkC m l ch)),(12,zhm (mkA m l ch)),(14,tmsA (duV m l)),(15,.own 201),(18,iv ((itK l (mkC m l ch) (mkA m l ch) (duV m l) k).length:Int)),(19,.ptr 19 0 0 0),(47,sgsA l),(48,iv l.length),(49,iv (k:Int))],[(201,.row itE (itK l (mkC m l ch) (mkA m l ch) (duV m l) k) 241 12),(19,.box [iv k,iv s.Value,.bool (decide (s.Kind=2)),.bool (decide (s.Kind=1)&&s.Color),.bool false,iv x,iv z.N,iv z.D,iv 0,iv 0,iv 0,iv 0] 241)]⟩ (λv5=>?_) ?_
  ·refine y4 [19,59,60,61,62,63,64,65,66,67,68,69,70,71,72,73,74,75,76,77,78,79,80] [0,0,2,0,8,24,0,64,192,448,960,1984,4032,0,0,24576,57344,0,0,393216,917504,2097151,0,8388607] mo ?_;(iterate 10 refine yb ?_);(iterate 2 refine bL ?_);(iterate 10 refine yb ?_);refine ChM.step rfl rfl rfl (zd (k:=19) zkS) rfl ?_;refine yD ?_;refine bF ?_;apply bD;exact yl kW v5
  refine zbm ⟨[(11,yj (mkC m l ch)),(12,zhm (mkA m l ch)),(14,tmsA (duV m l)),(15,.own 201),(18,iv ((itK l (mkC m l ch) (mkA m l ch) (duV m l) k).length:Int)),(19,.ptr 19 0 0 0),(47,sgsA l),(48,iv l.length),(49,iv (k:Int))],[(201,.row itE (itK l (mkC m l ch) (mkA m l ch) (duV m l) k) 241 12),(19,.box [iv k,iv s.Value,.bool (decide (s.Kind=2)),.bool (decide (s.Kind=1)&&s.Color),.bool false,iv x,iv z.N,iv z.D,iv 0,iv 1,iv 0,iv 1] 241)]⟩ (λv4=>?_) ?_
  ·apply yd;(iterate 3 refine ya ?_);refine bF ?_;refine ya ?_;refine bF ?_;apply bD;exact yl kW v4
  refine gd ?_ ?_<;>intro E
  ·rw[←zBs E]at H;refine gc (zfz z ⟨3,2⟩) ?_;refine gd ?_ ?_<;>intro v0
   ·exact absurd v9 v0
   refine gq ?_;refine yH itE [itL k s true x (mulV z ⟨3,2⟩)] ?_;refine gq ?_;refine yr (k+1)
  refine gd ?_ ?_<;>intro x0
  ·refine gd ?_ ?_<;>intro k9
   ·rw[←zwU E (.inl x0)]at H;refine gq ?_;refine yH itE [itL k s true x z] ?_;refine gq ?_;refine yr (k+1)
   exact absurd x0 k9
  ·refine gd ?_ ?_<;>intro G
   ·refine gd ?_ ?_<;>intro Q
    ·exact absurd (hn s (j6 hs)) (by unfold clr;rw[wD Q.1,Q.2];decide)
    exact absurd Q (λQ=>Q.elim (λh=>h G.1) (λh=>by rw[G.2]at h;cases h))
   ·refine gd ?_ ?_<;>intro xT
    ·rw[←zwU E (.inr xT)]at H;refine gq ?_;refine yH itE [itL k s true x z] ?_;refine gq ?_;refine yr (k+1)
    rw[←zBt E x0 (by unfold clr;rcases G with h|h<;>simp[h]) xT]at H;refine gq ?_;refine yH itE [itL k s false x z] ?_;refine gq ?_;refine yr (k+1)
 ·have k8:k=l.length:=aa
  subst k8;apply bH;apply yc;refine yo ?_;refine bC ?_;refine yi (kY (k:=201) rfl) ?_;refine yn ?_ ?_;all_goals(first|exact zE hV|exact zE hE|rfl|exact zE K)
end
section
attribute [local irreducible] mnsD zbE ofV ofL ofE ofD cntE cntV ckD
end
section
end
section
def icb(m:Mn)(l:List Sg):Int:=if cntE m l=0 then 1 else 0
def zw7(m:Mn)(l:List Sg):cntV m l*icb m l=cntV m l/\0<=cntV m l/\cntV m l<=64/\0<=icb m l/\icb m l<=1:=by
 have:=zpr (m:=m) (l:=l);unfold icb;by_cases h:cntE m l=0
 ·have:=zlv h;simp only[h,if_true];omega
 ·have:=zxd h;simp only[h,if_false];omega
def zt5(n:Int):dgL n []=([],n):=rfl
def zrj(n b:Int)(r:List Int):dgL n (b::r)=((dgL n r).2%b::(dgL n r).1,(dgL n r).2/b):=rfl
def zt6(n a b:Int):dgL n [a,b]=([n/b%a,n%b],n/b/a):=rfl
attribute [local irreducible] cntV cntE icb dgL ofE ofL ckD zae
def zfc(m:Mn)(l:List Sg)(hl:l.length<=1000)(hn:NC l):Fn prog 270 [mnA m,sgsA l] (.tup [iv (cntV m l),iv (icb m l),iv (cntE m l)]):=by
 obtain⟨-,q1,q2,-,-⟩:=zw7 m l;refine bB func270 ntmps270 (λg w d=>?_);refine gc (zhx m l hl) ?_;refine gd ?_ ?_<;>intro Q
 ·have E:=zxd Q;have K:0=icb m l:=by unfold icb;rw[j8 Q]
  refine gq ?_;refine bJ (.many ac (.cons (.tmp rfl (kZ ?_)) (.cons (.tmp rfl (kZ ?_)) (.cons (.tmp rfl (kZ ?_)) .nil))));all_goals(first|rfl|exact jA (AV.int .i64) E|exact jA (AV.int .i64) K)
 have N:=zmC Q;have H:=zfa m l hl hn;unfold colN at H;rw[j7 N]at H;have K:1=icb m l:=by unfold icb;rw[j7 Q]
 refine gc H ?_;refine gd ?_ ?_<;>intro G
 ·exact absurd N G
 refine gd ?_ ?_<;>intro xT
 ·omega
 refine gq ?_;refine bJ (.many ac (.cons (.tmp rfl (kZ ?_)) (.cons (.tmp rfl (kZ ?_)) (.cons (.tmp rfl (kZ ?_)) .nil))));all_goals(first|rfl|exact jA (AV.int .i64) K|exact jA (AV.int .i64) Q.symm)
def zlh(m:Mn)(l:List Sg)(hl:l.length<=1000)(hn:NC l):Fn prog 241 [mnA m,sgsA l] (.tup [iv (cntV m l),iv (cntE m l)]):=by
 obtain⟨q5,q1,q2,q3,q4⟩:=zw7 m l;refine bB func241 ntmps241 (λg w d=>?_);refine gc (zfc m l hl hn) ?_;refine yn ?_ ?_;all_goals(first|rfl|exact jA (AV.int .i64) q5)
set_option maxRecDepth 9999 in
def zjQ(N:Nat)(bs:List Int)(n:Int)(hN:bs.length=N)(h0:0<=n)(h1:n<=9223372036854775807)(Q:∀x∈bs,1<=x)(hl:N<=1000):Fn prog 271 [iv n,yj bs] (.tup [yj (dgL n bs).1,iv (dgL n bs).2]):=by
 induction N using Nat.strongRecOn generalizing bs n
 rename_i N ih;refine bB func271 ntmps271 (λg w d=>?_);refine gd ?_ ?_<;>intro K
 ·have G:bs=[]:=xZ.1 aa;subst G;have E:=zt5 n;apply yc;refine yo ?_;refine bC ?_;refine yi (yh (ts:=[(4,yj []),(5,iv n)]) (hs:=[])) ?_;refine yn ?_ ?_;all_goals exact zE E
 obtain⟨b,r,rfl⟩:∃b r,bs=b::r:=by
  cases bs with
  |nil=>simp at K
  |cons b r=>exact⟨b,r,rfl⟩
 have E:=zrj n b r;have x2:=Q b ah;have xT:=zrA (l:=r) h0 (λx hx=>Q x (by simp[hx]));obtain⟨x1,x0⟩:=xT;have w2:=zoW r n;have v9:r.length+1=N:=ao hN
 have v8:(b::r)[(0:Int).toNat]? =some b:=rfl;refine gq ?_
 first
  |refine yO (y8 rfl rfl rfl sl22 ty3 aa aa) rfl ?_
  |refine yO (zb2 rfl rfl sl22 ty3 (λ_=>rfl) aa aa) rfl ?_
 refine zf (ih r.length (by simp at hN;omega) r n rfl h0 h1 (λx hx=>Q x (by simp[hx])) (by simp at hN;omega)) ?_;iterate 2 refine ya ?_
 refine yo ?_;apply ye;refine zY [⟨0,19,iv (dgL n r).2,[]⟩,⟨1,20,yj (b::r),[]⟩,⟨2,21,.ept intE b 0,[1]⟩,⟨3,22,iv b,[1,2]⟩,⟨4,23,iv ((dgL n r).2%b),[1,2,3,0]⟩,⟨6,25,yj (dgL n r).1,[]⟩,⟨8,27,iv (dgL n r).2,[]⟩,⟨9,28,yj (b::r),[]⟩,⟨10,29,.ept intE b 0,[9]⟩,⟨11,30,iv b,[9,10]⟩,⟨12,31,iv ((dgL n r).2/b),[9,10,11,8]⟩] [(5,[1,2,3,0,4]),(7,[1,2,3,0,4,6,5]),(13,[6,5,4,3,2,1,0,7]),(14,[11,10,9,8,7,6,5,4,3,2,1,0,13,12])] (let T:=[(0,iv n),(1,yj (b::r)),(6,yj (dgL n r).1),(7,iv (dgL n r).2)];let H:=[];λj=>match j with|0=>⟨T,H⟩|1=>⟨(24,.own 33)::T,(33,.row intE ([(dgL n r).2%b]) 3 1)::H⟩|2=>⟨(26,.own 33)::T,(33,.row intE ([(dgL n r).2%b]++(dgL n r).1) 3 1)::H⟩|3=>⟨(4,.own 33)::T,(33,.row intE ([(dgL n r).2%b]++(dgL n r).1) 3 1)::H⟩|_=>⟨(4,.own 33)::(5,iv ((dgL n r).2/b))::T,(33,.row intE ([(dgL n r).2%b]++(dgL n r).1) 3 1)::H⟩) mo (zP (yh)) (λj hj=>?_) ⟨λβ=>Co2 rfl (yW (zx (k:=33) (enc:=intE) (l:=[(dgL n r).2%b]) sl22 ty3 ze3 ac rfl rfl rfl rfl ac ac (λ_=>rfl) rfl) rfl rfl),λβ=>Co2 rfl (zaw rfl rfl rfl SlK.h TiK.h ac ac (λ_=>rfl) (λ_=>rfl) (by first|omega|(simp;done)|(simp;omega)|(simp_all;omega)) rfl),λβ=>Co2 rfl (yW (bA (zbZ rfl)) rfl rfl),λβ=>Co2 rfl (yW (bA (zbZ rfl)) rfl rfl),trivial⟩ ?_
 ·rcases j with _|_|_|_|_|j
  ·exact yE
  ·exact yE
  ·exact yE
  ·exact yE
  ·exact yE
  ·exact absurd (show j+5<=4 from hj) aa
 refine bC ?_;refine yi (kY (k:=33) rfl) ?_;refine yn ?_ ?_;all_goals exact zE E
def zp9(m:Mn)(l:List Sg)(n:Int)(hl:l.length<=1000)(hn:NC l)(he:ofE m l n=0):Fn prog 242 [mnA m,sgsA l,iv n] (.tup [yj (ofL m l n),yj [],iv 0]):=by
 obtain⟨h0,n0,n1⟩:=zB8 he;have q:=zlv h0;have N:=zfc m l hl hn;unfold icb at N;rw[j7 h0,h0]at N;have Q:=zsi m l hl n;rw[he]at Q;have H:=znu m l hl hn (zmC h0);have K:=zjQ 2 [cntV m l,1] n rfl aa aa (λx hx=>by simp at hx;omega) ac;rw[zt6,Int.ediv_one,Int.emod_one,Int.emod_eq_of_lt n0 n1]at K;dsimp only at K;have x2:[n,0][(0:Int).toNat]? =some n:=rfl;have x1:[n,0][(1:Int).toNat]? =some 0:=rfl;refine bB func242 ntmps242 (λg w d=>?_);refine gc N ?_;refine gd ?_ ?_<;>intro G
 ·exact absurd rfl G
 apply yf;apply ye;apply yc;iterate 2 refine ya ?_
 refine bI 2 ?_;refine yw ?_;iterate 5 refine bE ?_
 refine gf ?_ ?_<;>intro x0
 ·omega
 refine gq ?_;refine yH intE [cntV m l,1] ?_;refine yY (kY (k:=37) rfl) ?_;refine gc K ?_;refine y4 [6,11,41,42,43,44,45,46,47,48,49] [0,0,0,4,12,31,63,127,127,255,1023] mo ?_;iterate 5 refine yb ?_
 refine yI Q ?_;iterate 5 refine yb ?_
 refine yD ?_;refine gd ?_ ?_<;>intro E
 ·exact absurd rfl E
 refine gq ?_;refine y4 [7,11,53,54,55,56,57,58,59,60,61] [0,0,0,4,12,31,63,127,127,255,1023] mo ?_;iterate 5 refine yb ?_
 refine yI H ?_;iterate 5 refine yb ?_
 refine yD ?_;refine gd ?_ ?_<;>intro xT
 ·exact absurd rfl xT
 refine gq ?_;refine bJ (.many ac (.cons (.tmp rfl (kZ ?_)) (.cons (.tmp rfl (kZ ?_)) (.cons (.tmp rfl (kZ ?_)) .nil))));all_goals rfl
def zmv(m:Mn)(l:List Sg)(hl:l.length<=1000)(hn:NC l):Fn prog 106 [mnA m,sgsA l] (.tup [yj (if ckD m l=0 then zae m l else[]),yj [],iv (ckD m l)]):=by
 refine bB func106 ntmps106 (λg w d=>?_);refine gc (znV m l hl) ?_;refine gd ?_ ?_<;>intro Q
 ·have hr:[]=(if ckD m l=0 then zae m l else[]):=by rw[j8 Q]
  apply yc;refine ya ?_;refine yo ?_;refine bC ?_;refine yi (yh (ts:=[(4,yj []),(5,yj []),(6,iv (ckD m l))]) (hs:=[])) ?_;refine bJ (.many ac (.cons (.tmp rfl (kZ ?_)) (.cons (.tmp rfl (kZ ?_)) (.cons (.tmp rfl (kZ ?_)) .nil))));all_goals(first|exact jA yj hr|rfl)
 refine gc (zk8 m l hl hn) ?_;refine gd ?_ ?_<;>intro N
 ·exact absurd Q N
 refine gq ?_;refine bJ (.many ac (.cons (.tmp rfl (kZ ?_)) (.cons (.tmp rfl (kZ ?_)) (.cons (.tmp rfl (kZ ?_)) .nil))));all_goals(first|rfl|exact jA (AV.int .i64) Q.symm)
end
section
end
end Go.Rse
namespace Go.Rse
open Go Go.Proofs Go.RowKit Go.Proofs.Tryz
def zmw(m:Mn)(l:List Sg)(ch:List Int):(itmV m l ch).length<=l.length:=by
 unfold itmV;split
 ·rw[ziC];exact zfv l _
 ·simp
end Go.Rse
namespace Go.Rse
open Go Go.Proofs Go.Proofs.Tryz
section
variable{l:List Ite}{n:Nat}{x:Ite}
def LeV.agg{cs cs':List AV}(h:LeL cs cs'):LeV (.agg cs) (.agg cs'):=λI ρ v N=>by
 cases N with
 |agg _ vs hl Q=>
  obtain⟨h1,K⟩:=h.rvl (vs:=vs) ⟨hl,Q⟩;exact .agg cs' vs h1 K
def rdI(m:Mn)(l:List Sg):List Ite:=itmV m l (zae m l)
def rdE(m:Mn)(l:List Sg):Int:=if ckD m l=0 then leE m (rdI m l)else ckD m l
def rdV(m:Mn)(l:List Sg):Rdg:=if rdE m l=0 then⟨zae m l,[],leC m (rdI m l),(leI m (rdI m l)).map (·.Dur)⟩else⟨[],[],[],[]⟩
section
variable{m:Mn}{l:List Sg}
def zy8(h:¬ckD m l=0):rdE m l=ckD m l/\rdV m l=⟨[],[],[],[]⟩:=by
 have:rdE m l=ckD m l:=by unfold rdE;rw[j8 h]
 refine⟨this,?_⟩;unfold rdV;rw[this,j8 h]
def zBG(h:ckD m l=0)(Q:¬leE m (rdI m l)=0):rdE m l=leE m (rdI m l)/\rdV m l=⟨[],[],[],[]⟩:=by
 have:rdE m l=leE m (rdI m l):=by unfold rdE;rw[j7 h]
 refine⟨this,?_⟩;unfold rdV;rw[this,j8 Q]
def zBH(h:ckD m l=0)(Q:leE m (rdI m l)=0):rdE m l=0/\rdV m l=⟨zae m l,[],leC m (rdI m l),(leI m (rdI m l)).map (·.Dur)⟩:=by
 have:rdE m l=0:=by unfold rdE;rw[j7 h,Q]
 refine⟨this,?_⟩;unfold rdV;rw[this,j7 rfl]
def zli:(rdI m l).length<=l.length:=zmw _ _ _
end
def zoM{m:Mn}:∀(L:List Int)(l:List Ite)(C:List Int),(lvF m L l C).2.1.length<=l.length
 |[],l,C=>jG _
 |k::r,l,C=>by
  unfold lvF;split
  ·rename_i h;have:=zoM (m:=m) r (apV m k l (cuV m k l)) (C++cuV m k l);rw[zig (zmA h)]at this;exact this
  ·simp
def zoN(m:Mn)(l:List Ite):(leI m l).length<=l.length:=by
 unfold leI;split
 ·exact zoM _ _ _
 ·simp
def zrk(h:l[n]? =some x):(l.take n).map (·.Dur)++[x.Dur]=(l.take (n+1)).map (·.Dur):=by
 rw[jK,h];simp
end
attribute [local irreducible] Pur yy yu Ex X Fn Imp LeV LeB FnO It yA
section
attribute [local irreducible] FnW FnOW FnP FnD
attribute [local irreducible] leE leC leI rdI rdE rdV ckD zae itmV
def zmx(m:Mn)(l:List Sg)(hl:l.length<=1000)(hn:NC l):Fn prog 56 [mnA m,sgsA l] (.tup [rdgA (rdV m l),iv (rdE m l)]):=by
 have hR:=zmv m l hl hn;have v9:=zli (m:=m) (l:=l);have v8:=zoN m (rdI m l);have v5:(zae m l).length<=4000000:=by have:=zfV m l;have:=zgx m l;omega
 refine bB func56 ntmps56 (λg w d=>?_);refine gc (zcT m l hl) ?_;refine gd ?_ ?_<;>intro N
 ·have K:=zy8 N;obtain⟨hE,Q⟩:=K;apply yc;iterate 2 refine ya ?_
  refine bF ?_;refine yk ?_;refine bC ?_;refine yi (c7 (ts:=[(4,.ptr 4 0 0 0),(5,iv (ckD m l))]) (hs:=[(4,.box [yj [],yj [],yj [],tmsA []] 50)]) ⟨⟨_,rfl,bM _⟩,⟨_,rfl,bM _⟩,True.intro⟩ ⟨⟨_,rfl,LeB.box (.cons (bO _) (.cons (bO _) (.cons (bO _) (.cons (bO _) .nil))))⟩,True.intro⟩) ?_;refine yR ty50 ?_ ?_;all_goals(first|exact jA (λz=>AV.agg (rdgE z)) Q.symm|exact jA (λz=>AV.int .i64 z) hE.symm)
 have h0:ckD m l=0:=aa
 rw[j7 h0,h0]at hR;have H:=zoL (zcD h0).1 h0
 have hI:Fn prog 107 [mnA m,sgsA l,yj (zae m l),yj []] (.tup [itsA (rdI m l),iv 0]):=by
  have h:=zfW m l (zae m l) hl hn;rw[H]at h;unfold rdI;exact h
 refine gc hR ?_;refine gd ?_ ?_<;>intro G
 ·exact absurd rfl G
 refine gc hI ?_;refine gd ?_ ?_<;>intro E
 ·exact absurd rfl E
 refine gc (zjV m (rdI m l) aa) ?_;refine gd ?_ ?_<;>intro xT
 ·have x2:=zBG h0 xT;obtain⟨hE,Q⟩:=x2;apply yc;iterate 2 refine ya ?_
  refine bF ?_;refine yk ?_;refine bC ?_;refine yi (c7 (ts:=[(4,.ptr 4 0 0 0),(5,iv (leE m (rdI m l)))]) (hs:=[(4,.box [yj [],yj [],yj [],tmsA []] 50)]) ⟨⟨_,rfl,bM _⟩,⟨_,rfl,bM _⟩,True.intro⟩ ⟨⟨_,rfl,LeB.box (.cons (bO _) (.cons (bO _) (.cons (bO _) (.cons (bO _) .nil))))⟩,True.intro⟩) ?_;refine yR ty50 ?_ ?_;all_goals(first|exact jA (λz=>AV.agg (rdgE z)) Q.symm|exact jA (λz=>AV.int .i64 z) hE.symm)
 have h2:leE m (rdI m l)=0:=aa
 have x1:=zBH h0 h2;obtain⟨hE,x0⟩:=x1;have v4:[]=((leI m (rdI m l)).take 0).map (λx=>x.Dur):=ah
 apply yf;apply yc;iterate 4 refine ya ?_
 refine yP ?_;refine bF ?_;apply bD;iterate 2 apply ye
 refine yl (st':=⟨[(4,.ptr 4 0 0 0),(10,itsA (leI m (rdI m l))),(12,.ptr 12 0 0 0)],[(4,.box [.nils,.nils,.nils,.nils] 50),(12,.box [yj (zae m l),yj [],yj (leC m (rdI m l)),.own 40] 50),(40,.row tmE [] 35 2)]⟩) ((zbV tmE 35 2 12 40 3 50 _ [yj (zae m l),yj [],yj (leC m (rdI m l)),.own 40] rfl rfl rfl rfl).trans yh) ?_;apply yd;refine yo ?_;apply kX;refine y9 [4,12,60,61] (λn zz=>(62,iv (n:Int))::zz) [4,12] (λn zz=>(40,.row tmE (((leI m (rdI m l)).take n).map (λx=>x.Dur)) 35 2)::zz) ((leI m (rdI m l)).length) (λn hk=>?_);refine gd ?_ ?_<;>intro v3
 ·have w2:=@getX _ (leI m (rdI m l)) n aa;obtain⟨x,hx,v2⟩:=w2;have v1:=zrk hx;have v0:(((leI m (rdI m l)).take n).map (λx=>x.Dur)).length<=1000:=by rw[jD,jO];omega
  refine gq ?_;refine yH tmE [⟨_,_⟩] ?_;refine gq ?_;refine yr (n+1) (hI:=kW)
 ·have hn:n=(leI m (rdI m l)).length:=aa
  subst hn;have Q:rdV m l=⟨zae m l,[],leC m (rdI m l),((leI m (rdI m l)).take (leI m (rdI m l)).length).map (λx=>x.Dur)⟩:=by rw[x0,jR]
  apply bH;apply ye;refine yl (st':=⟨[(4,.ptr 4 0 0 0),(12,.ptr 12 0 0 0)],[(4,.box [.nils,.nils,.nils,.nils] 50),(12,.box [yj (zae m l),yj [],yj (leC m (rdI m l)),tmsA (((leI m (rdI m l)).take (leI m (rdI m l)).length).map (λx=>x.Dur))] 50)]⟩) ((kY (k:=40) rfl).trans yh) ?_;refine gq ?_;refine yR ty50 ?_ ?_;all_goals(first|exact jA (λz=>AV.agg (rdgE z)) Q.symm|exact jA (λz=>AV.int .i64 z) hE.symm)
end
section
variable{c:Sc}{k:Nat}{l:List Sg}{α β:Type}{L:List α}{f:α->List β}{r x:α}
structure Ru where
 M:Mn
 S:List Sg
def ruE:Ru->List AV:=λr=>[iv r.M.Max,iv r.M.Mod,iv r.M.Tem,iv r.M.Pro,sgsA r.S]
def rusV(l:List Sg):List Ru:=(scV l).map λc=>⟨c.M,rcV l c⟩
def rsK:List Ru->Nat->(Int×Int)
 |[],k=>(0,0)
 |r::L,k=>if rdE r.M r.S=0 then rsK L (k+1)else(rdE r.M r.S,(k:Int))
def rsR(L:List Ru):List Rdg:=L.map λr=>rdV r.M r.S
def joV(L:List Rdg):Rdg:=⟨L.flatMap (·.Dots),L.flatMap (·.Minor),L.flatMap (·.Choices),L.flatMap (·.Durs)⟩
def zBI{r:Ru}{L:List Ru}(h:rdE r.M r.S=0):rsK (r::L) k=rsK L (k+1):=by rw[rsK,j7 h]
def zBJ{r:Ru}{L:List Ru}(h:¬rdE r.M r.S=0):rsK (r::L) k=(rdE r.M r.S,(k:Int)):=by rw[rsK,j8 h]
def zmy(l:List Sg):(rusV l).length<=l.length+1:=by unfold rusV;rw[jD];exact zeO l
def zy9(h:(scV l)[k]? =some c):(rusV l)[k]? =some ⟨c.M,rcV l c⟩:=by unfold rusV;rw[j9,h];rfl
def zt7(l:List Sg)(h:ScR l.length c):(rcV l c).length<=l.length:=by
 have:=(zmh l c.F.toNat (c.T-c.F).toNat).1;have h1:=h.f;have Q:=h.t;have N:=h.n;unfold rcV;omega
def zoO:∀r∈rusV l,r.S.length<=l.length:=by
 intro r hr;unfold rusV at hr;obtain⟨c,Q,rfl⟩:=jS.1 hr;exact zt7 l (zrN l c Q)
def zoP(h:L[k]? =some r):L.drop k=r::L.drop (k+1):=by
 have h1:=j5.1 h;rw[jQ h1.1,h1.2]
theorem zza(h:L[k]? =some x):(L.take k).flatMap f++f x=(L.take (k+1)).flatMap f:=by
 rw[jK,h];simp
theorem zrl(f:α->List β)(L:List α)(k:Nat):((L.take k).flatMap f).length<=(L.flatMap f).length:=by
 have:(L.take k).flatMap f++(L.drop k).flatMap f=L.flatMap f:=by rw[←uG,wV]
 rw[←this,jJ];omega
def zBK{L:List Ru}{r:Ru}(h:L[k]? =some r):rsR (L.take k)++[rdV r.M r.S]=rsR (L.take (k+1)):=by
 unfold rsR;rw[jK,h];simp
def ziL{α β:Type}{f:α->List β}{b:Nat}:∀{L:List α},(∀x∈L,(f x).length<=b)->(L.flatMap f).length<=L.length*b
 |[],_=>by simp
 |x::L,h=>by
  have h1:=h x ah;have N:=ziL (L:=L) λy Q=>h y (wA _ Q)
  rw[uH,jJ,w5,Nat.add_mul];omega
def rpV(l:List Sg):Rdg:=if(rsK (rusV l) 0).1=0 then joV (rsR (rusV l))else⟨[],[],[],[]⟩
end
section
variable{l:List Sg}{m:Mn}
attribute [local irreducible] FnW FnOW FnP FnD
attribute [local irreducible] rdE rdV
def zt8:(rdV m l).Durs.length<=l.length:=by
 unfold rdV;split
 ·show((leI m (rdI m l)).map _).length<=_;rw[jD];exact jV (zoN _ _) zli
 ·simp
end
section
variable{M:List Int}{k:Int}{l:List Ite}{m:Mn}
def zrm(h:apE m k l M=0):segE m k l=0/\(segV m k l).length=M.length/\okJ (unT m k) k (segV m k l) l M M.length=true:=by
 unfold apE at h;split at h
 ·split at h
  ·cases h
  ·rename_i h1 Q;refine⟨h1,jY λe=>Q (.inl e),?_⟩;cases hk:okJ (unT m k) k (segV m k l) l M M.length with
   |true=>rfl
   |false=>exact absurd (.inr hk) Q
 ·exact absurd h ai
end
section
end
section
variable{ch:List Int}{k:Nat}{l:List Sg}{m:Mn}{s:Sg}
abbrev zzb(l:List Sg):Prop:=∀(i:Nat)z,l[i]? =some z->z.Kind=3->∃(j:Nat)(p:Sg),i=j+1/\l[j]? =some p/\¬p.Kind=3
def zoQ(h1:mkE m l ch=0):(itmV m l ch).length=ntN l l.length:=by
 rw[zny h1,ziC]
def nxt(G:zzb l)(hs:l[k]? =some s)(E:¬s.Kind=3)(hn:ntN l k+1<ntN l l.length):
 (∃t,l[k+1]? =some t/\¬t.Kind=3/\ntN l (k+1)=ntN l k+1)\/(∃z t,l[k+1]? =some z/\z.Kind=3/\l[k+2]? =some t/\¬t.Kind=3/\ntN l (k+2)=ntN l k+1):=by
 have e:=znv hs E;have hk:k+1<l.length:=zw3 (l:=l) aa;have ht:l[k+1]? =some l[k+1]:=lgg hk;by_cases h:(l[k+1]).Kind=3
 ·have e2:=zov ht h;have K:k+1+1<l.length:=zw3 (l:=l) aa;have Q:l[k+2]? =some l[k+2]:=lgg K;refine .inr ⟨_,_,ht,h,Q,λh4=>?_,by rw[show k+2=k+1+1 by omega,e2];omega⟩;obtain⟨j,p,hj,N,H⟩:=G _ _ Q h4;have:j=k+1:=aa
  subst this;rw[ht]at N;injection N with N;rw[N]at h;exact H h
 ·exact .inl ⟨_,ht,h,e⟩
end
section
variable{I:List Ite}{k:Int}{l:List Sg}{m:Mn}{n:Nat}
section
variable{m:Mn}{l:List Sg}
end
def ziM{m:Mn}{I:List Ite}(h0:ckM m=0)(h1:ckIE I=0)(h:leE m I=0):∀n,n<=(perfL m).length->LvJ m (perfL m) I n
 |0,_=>LvJ.z m _ I
 |n+1,hn=>by
  have ih:=ziM h0 h1 h n aa;have hk:(perfL m)[n]? =some ((perfL m)[n]'aa):=lgg aa;refine ih.s hk (jY λhe=>?_);have:=(zzl h0 h1 ih hk he).1;rw[h]at this;exact he this.symm
def zBL(h0:ckM m=0)(h1:ckIE I=0)(h:leE m I=0)(hk:(perfL m)[n]? =some k):cuE m k (lvN m (perfL m) I n).2=0:=by
 have Q:=(j5.1 hk).1;refine jY λhe=>?_
 have:=(zzl h0 h1 (ziM h0 h1 h n aa) hk he).1;rw[h]at this;exact he this.symm
def zrn{m:Mn}{L:List Int}{I:List Ite}{n:Nat}:∀d,∃r,(lvN m L I (n+d)).1=(lvN m L I n).1++r
 |0=>⟨[],ah⟩
 |d+1=>by
  obtain⟨r,hr⟩:=zrn (m:=m) (L:=L) (I:=I) (n:=n) d;exact⟨r++cuV m (L.getD (n+d) 0) (lvN m L I (n+d)).2,by show(lvN m L I (n+d)).1++cuV m (L.getD (n+d) 0) (lvN m L I (n+d)).2=_;rw[hr,u4]⟩
def zt9(h0:ckM m=0)(h1:ckIE I=0)(h:leE m I=0)(hk:(perfL m)[n]? =some k):
 (lvN m (perfL m) I n).1.length+(segV m k (lvN m (perfL m) I n).2).length<=(leC m I).length∧
 ((leC m I).drop (lvN m (perfL m) I n).1.length).take (segV m k (lvN m (perfL m) I n).2).length=cuV m k (lvN m (perfL m) I n).2∧
 (lvN m (perfL m) I (n+1)).1.length=(lvN m (perfL m) I n).1.length+(segV m k (lvN m (perfL m) I n).2).length∧
 segE m k (lvN m (perfL m) I n).2=0/\apE m k (lvN m (perfL m) I n).2 (cuV m k (lvN m (perfL m) I n).2)=0∧
 apV m k (lvN m (perfL m) I n).2 (cuV m k (lvN m (perfL m) I n).2)=(lvN m (perfL m) I (n+1)).2:=by
 have K:=(j5.1 hk).1;have N:=zBL h0 h1 h hk;obtain⟨c0,c1⟩:=zrw N
 have hl:(cuV m k (lvN m (perfL m) I n).2).length=(segV m k (lvN m (perfL m) I n).2).length:=by
  unfold cuO at c1;exact(zg1 c1).1
 obtain⟨e1,e2⟩:=zih (m:=m) (l:=I) hk;have Q:=(zzm h0 h1 (ziM h0 h1 h (perfL m).length (jG _)) rfl).2.1;obtain⟨r,hr⟩:=zrn (m:=m) (L:=perfL m) (I:=I) (n:=n+1) ((perfL m).length-(n+1));rw[show n+1+((perfL m).length-(n+1))=(perfL m).length by omega,Q,←e1,u4]at hr;refine⟨?_,?_,?_,c0,zmA N,e2⟩
 ·rw[hr,jJ,jJ];omega
 ·rw[hr,List.drop_left,←hl,List.take_left]
 ·rw[←e1,jJ,hl]
def zro(h0:ckM m=0)(h1:ckIE I=0)(h:leE m I=0):(lvN m (perfL m) I (perfL m).length).1=leC m I/\(lvN m (perfL m) I (perfL m).length).2=leI m I:=
 (zzm h0 h1 (ziM h0 h1 h (perfL m).length (jG _)) rfl).2
def zzc(h:leE m I=0):ckM m=0/\ckIE I=0:=by
 have h0:ckM m=0:=jY λQ=>Q ((zB5 Q).1.symm.trans h)
 exact⟨h0,jY λQ=>Q ((zB6 h0 Q).1.symm.trans h)⟩
def zua(m:Mn)(I:List Ite):(leC m I).length<=4*(2*I.length+2):=by
 by_cases h:leE m I=0
 ·obtain⟨Q,hI⟩:=zzc h;rw[←(zro Q hI h).1];have h1:=(ziM Q hI h (perfL m).length (jG _)).cho;have N:=jX (2*I.length+2) (zlu m);omega
 ·unfold leC;rw[j8 h];simp
def zrp(m:Mn)(hl:l.length<=1000):(rdV m l).Dots.length<=1000/\(rdV m l).Minor.length<=1000/\(rdV m l).Choices.length<=10000/\(rdV m l).Durs.length<=1000:=by
 have Q:(zae m l).length<=1000:=by have:=zfV m l;have:=zoK m l;omega
 have N:=zua m (rdI m l);have hi:=zli (m:=m) (l:=l);have K:=zt8 (m:=m) (l:=l);refine⟨?_,?_,?_,aa⟩
 ·unfold rdV;split
  ·exact Q
  ·simp
 ·unfold rdV;split
  ·simp
  ·simp
 ·unfold rdV;split
  ·show(leC m (rdI m l)).length<=_;omega
  ·simp
end
section
variable{k:Nat}{l:List Sg}
abbrev rdsA(l:List Rdg):AV:=.sl rdgE l
def NoR(l:List Sg):Prop:=∀x∈l,¬x.Kind=9/\¬x.Kind=10
def zBM(hl:l.length<=400):∀r∈rusV l,(rdV r.M r.S).Dots.length<=4000/\(rdV r.M r.S).Minor.length<=4000/\(rdV r.M r.S).Choices.length<=10000/\(rdV r.M r.S).Durs.length<=4000:=λr hr=>by
 have h1:=zoO r hr;have Q:=zrp r.M (l:=r.S) aa;omega
def zBN(hl:l.length<=400):((rsR (rusV l)).flatMap (·.Dots)).length<=4100000/\((rsR (rusV l)).flatMap (·.Minor)).length<=4100000/\((rsR (rusV l)).flatMap (·.Choices)).length<=4100000/\((rsR (rusV l)).flatMap (·.Durs)).length<=4100000:=by
 have Q:=zBM hl;have hn:=zmy l;have N:(rsR (rusV l)).length<=401:=by unfold rsR;rw[jD];omega
 have mem:∀x∈rsR (rusV l),∃r∈rusV l,rdV r.M r.S=x:=λx hx=>by unfold rsR at hx;exact jS.1 hx
 refine⟨?_,?_,?_,?_⟩
 ·exact jV (ziL (b:=4000) λx hx=>by obtain⟨r,hr,rfl⟩:=mem x hx;exact(Q r hr).1) aa
 ·exact jV (ziL (b:=4000) λx hx=>by obtain⟨r,hr,rfl⟩:=mem x hx;exact(Q r hr).2.1) aa
 ·exact jV (ziL (b:=10000) λx hx=>by obtain⟨r,hr,rfl⟩:=mem x hx;exact(Q r hr).2.2.1) aa
 ·exact jV (ziL (b:=4000) λx hx=>by obtain⟨r,hr,rfl⟩:=mem x hx;exact(Q r hr).2.2.2) aa
def zBO{L:List Ru}{r:Ru}(h:L[k]? =some r)(Q:rsK L 0=rsK (L.drop k) k)(c:rdE r.M r.S=0):rsK L 0=rsK (L.drop (k+1)) (k+1):=by rw[Q,zoP h,zBI c]
def zBP{L:List Ru}{r:Ru}(h:L[k]? =some r)(Q:rsK L 0=rsK (L.drop k) k)(c:¬rdE r.M r.S=0):rsK L 0=(rdE r.M r.S,(k:Int)):=by rw[Q,zoP h,zBJ c]
def zzd{L:List Ru}(Q:rsK L 0=rsK (L.drop L.length) L.length):rsK L 0=(0,0):=by rw[Q,uD,rsK]
attribute [local irreducible] FnW FnOW FnP FnD
def zoR{l:List Sg}{F:Nat}{x:Sg}:∀n,x∈(rcK l F n).1->x∈l
 |0,h=>by simp[rcK]at h
 |n+1,h=>by
  have:=zoR (l:=l) (F:=F) (x:=x) n
  grind[rcK]
def zze(h:ScOk l):∀r∈rusV l,NC r.S:=λr hr s hs=>by
 unfold rusV at hr;obtain⟨c,Q,rfl⟩:=jS.1 hr;obtain⟨k,hk⟩:=jL.1 (zoR _ hs);unfold clr;rw[(h k s hk).2.2,Bool.and_false]
attribute [local irreducible] ufS clS ckM nmQ bsB scS scV scX rcK rcV rcI rdE rdV rusV rsR rsK
def zfd(l:List Sg)(hl:l.length<=4000000)(hr:NoR l):Fn prog 103 [sgsA l] (.tup [.nils,iv 0,.bool true]):=by
 refine bB func103 ntmps103 (λg w d=>?_);apply yc;iterate 3 refine ya ?_
 apply yp;refine ya ?_;apply yp;refine yk ?_;apply ye;apply yc;refine yo ?_;apply kX;refine y9 [5,6,10,11] (λk zz=>(12,iv (k:Int))::zz) [] (λ_ zz=>zz) l.length (λk hk=>?_);refine gd ?_ ?_<;>intro w2
 ·have N:=@getX _ l k aa;obtain⟨x,hx,v9⟩:=N;have Q:=hr x (j6 hx);refine gd ?_ ?_<;>intro K
  ·have H:=K;refine gd ?_ ?_<;>intro G
   ·refine gd ?_ ?_<;>intro E
    ·cases E
    refine gq ?_;refine yr (k+1) (hI:=kW)
   ·exact absurd H G
  ·refine gd ?_ ?_<;>intro v8
   ·refine gd ?_ ?_<;>intro xT
    ·cases xT
    refine gq ?_;refine yr (k+1) (hI:=kW)
   ·refine gd ?_ ?_<;>intro x2
    ·exact absurd x2 Q.1
    refine gd ?_ ?_<;>intro x1
    ·exact absurd x1 Q.2
    refine gq ?_;refine yr (k+1) (hI:=kW)
 ·refine gd ?_ ?_<;>intro x0
  ·cases x0
  refine gq ?_;refine bJ (.many ac (.cons (.tmp rfl (kZ ?_)) (.cons (.tmp rfl (kZ ?_)) (.cons (.tmp rfl (kZ ?_)) .nil))));all_goals exact zR
def zef(s:ByteArray)(l:List Sg)(h:PtK s l)(hr:NoR l):Fn prog 54 [.agg [.str s,sgsA l]] (.tup [iv 0,iv 0]):=by
 have hl:=h.hl;refine bB func54 ntmps54 (λg w d=>?_);refine gc (zcd s l h.hs h.hn h.hl h.hk) ?_;refine gd ?_ ?_<;>intro Q
 ·exact absurd Q ac
 refine gc (zfd l aa hr) ?_;refine gd ?_ ?_<;>intro N
 ·cases N
 refine gq ?_;refine yn ?_ ?_;all_goals exact zR
def zbe(s:ByteArray)(l:List Sg)(h:PtK s l)(hr:NoR l)(hok:ScOk l):Fn prog 24 [.agg [.str s,sgsA l]] (.agg [iv 0,iv 0]):=by
 refine bB func24 ntmps24 (λg w d=>?_);refine gc (zef s l h hr) ?_;refine gd ?_ ?_<;>intro Q
 ·exact absurd Q ac
 refine gc (zab s l h hok) ?_;refine bJ (.one (.cellA rfl rfl rfl rfl ty31 (kZ ?_)));all_goals exact zR
def zgZ(r:Ru)(hl:r.S.length<=1000)(hn:NC r.S):Fn prog 25 [.agg (ruE r)] (.tup [rdgA (rdV r.M r.S),iv (rdE r.M r.S)]):=by
 refine bB func25 ntmps25 (λg w d=>?_);refine gc (zmx r.M r.S hl hn) ?_;refine yR ty50 ?_ ?_;all_goals exact zR
def zlj(s:ByteArray)(l:List Sg)(h:PtK s l)(hok:ScOk l):Fn prog 26 [.agg [.str s,sgsA l]] (.sl ruE (rusV l)):=by
 have hl:=h.hl;have H:=zeO l;have z0:[]=(rusV l).take 0:=ah
 have Q:(rusV l).length=(scV l).length:=by unfold rusV;rw[jD]
 refine bB func26 ntmps26 (λg w d=>?_);refine gq ?_;refine zf (zab s l h hok) ?_;iterate 5 refine ya ?_
 apply yp;refine yk ?_;iterate 2 apply ye
 refine yl (yz ruE 99 5 5 30 rfl rfl) ?_;apply yd;refine yo ?_;apply kX;refine y9 [1,5,16,17] (λk zz=>(18,iv (k:Int))::zz) [1] (λk zz=>(30,.row ruE ((rusV l).take k) 99 5)::zz) ((scV l).length) (λk hk=>?_);refine gd ?_ ?_<;>intro G
 ·have N:=@getX _ (scV l) k aa;obtain⟨c,K,E⟩:=N;have xT:=zjN (zy9 K);have x2:((rusV l).take k).length<=1000:=by rw[jO];omega
  refine gc (zfq s l h hok k c K) ?_;refine yH ruE [⟨c.M,rcV l c⟩] ?_;refine gq ?_;refine yr (k+1) (hI:=kW)
 ·obtain rfl:k=(scV l).length:=aa
  have hV:(rusV l).take (scV l).length=rusV l:=by rw[←Q,jR]
  apply bH;apply yc;refine yC ?_;refine bC ?_;refine yi (kY (k:=30) rfl) ?_;refine gq ?_;all_goals(first|exact jA (λz=>AV.sl ruE z) hV|rfl)
def ziN(r:Rdg):Fn prog 59 [rdgA r] (yj r.Dots):=by
 refine bB func59 ntmps59 (λg w d=>?_);refine gq ?_;all_goals exact zR
def ziO(r:Rdg):Fn prog 60 [rdgA r] (yj r.Minor):=by
 refine bB func60 ntmps60 (λg w d=>?_);refine gq ?_;all_goals exact zR
def ziP(r:Rdg):Fn prog 61 [rdgA r] (yj r.Choices):=by
 refine bB func61 ntmps61 (λg w d=>?_);refine gq ?_;all_goals exact zR
def ziQ(r:Rdg):Fn prog 63 [rdgA r] (tmsA r.Durs):=by
 refine bB func63 ntmps63 (λg w d=>?_);refine gq ?_;all_goals exact zR
def zD(L:List Rdg)(fid:FuncId)(f:Rdg->List Int)(hf:∀r,Fn prog fid [rdgA r] (.sl intE (f r)))(H:(L.flatMap f).length<=4100000)(hL:L.length<=4000):Fn prog 58 [rdsA L,.fn fid []] (.sl intE (L.flatMap f)):=by
 have z0:[]=(L.take 0).flatMap f:=ah
 refine bB func58 ntmps58 (λg w d=>?_);apply yc;refine ya ?_;apply yp;refine yk ?_;iterate 2 apply ye
 refine yl (yz intE 3 1 5 30 rfl rfl) ?_;apply yd;refine yo ?_;apply kX;refine y9 [1,5,8,9] (λk zz=>(10,iv (k:Int))::zz) [] (λk zz=>(30,.row intE ((L.take k).flatMap f) 3 1)::zz) L.length (λk hk=>?_);refine gd ?_ ?_<;>intro G
 ·have Q:=@getX _ L k aa;obtain⟨x,hx,E⟩:=Q;have N:=zza (f:=f) hx;have K:((L.take k).flatMap f++f x).length<=4100000:=by rw[N];exact jV (zrl f L _) H
  rw[jJ]at K;refine gc (hf x) ?_;refine yr (k+1) (hI:=kW)
 ·obtain rfl:k=L.length:=aa
  have hV:(L.take L.length).flatMap f=L.flatMap f:=by rw[jR]
  apply bH;apply yc;refine yC ?_;refine bC ?_;refine yi (kY (k:=30) rfl) ?_;refine gq ?_;all_goals(first|exact jA (λz=>AV.sl intE z) hV|rfl)
def za7(L:List Rdg)(fid:FuncId)(f:Rdg->List Tm)(hf:∀r,Fn prog fid [rdgA r] (.sl tmE (f r)))(H:(L.flatMap f).length<=4100000)(hL:L.length<=4000):Fn prog 62 [rdsA L,.fn fid []] (.sl tmE (L.flatMap f)):=by
 have z0:[]=(L.take 0).flatMap f:=ah
 refine bB func62 ntmps62 (λg w d=>?_);apply yc;refine ya ?_;apply yp;refine yk ?_;iterate 2 apply ye
 refine yl (yz tmE 35 2 5 30 rfl rfl) ?_;apply yd;refine yo ?_;apply kX;refine y9 [1,5,8,9] (λk zz=>(10,iv (k:Int))::zz) [] (λk zz=>(30,.row tmE ((L.take k).flatMap f) 35 2)::zz) L.length (λk hk=>?_);refine gd ?_ ?_<;>intro G
 ·have Q:=@getX _ L k aa;obtain⟨x,hx,E⟩:=Q;have N:=zza (f:=f) hx;have K:((L.take k).flatMap f++f x).length<=4100000:=by rw[N];exact jV (zrl f L _) H
  rw[jJ]at K;refine gc (hf x) ?_;refine yr (k+1) (hI:=kW)
 ·obtain rfl:k=L.length:=aa
  have hV:(L.take L.length).flatMap f=L.flatMap f:=by rw[jR]
  apply bH;apply yc;refine yC ?_;refine bC ?_;refine yi (kY (k:=30) rfl) ?_;refine gq ?_;all_goals(first|exact jA (λz=>AV.sl tmE z) hV|rfl)
def zlk(L:List Rdg)(Q:L.length<=4000)(h1:(L.flatMap (·.Dots)).length<=4100000)(N:(L.flatMap (·.Minor)).length<=4100000)(K:(L.flatMap (·.Choices)).length<=4100000)(H:(L.flatMap (·.Durs)).length<=4100000):Fn prog 27 [rdsA L] (rdgA (joV L)):=by
 refine bB func27 ntmps27 (λg w d=>?_);refine gc (zD L _ (·.Dots) ziN h1 Q) ?_;refine gc (zD L _ (·.Minor) ziO N Q) ?_;refine gc (zD L _ (·.Choices) ziP K Q) ?_;refine gc (za7 L _ (·.Durs) ziQ H Q) ?_;refine bJ (.one (.cellA rfl rfl rfl rfl ty50 (kZ ?_)));all_goals exact zR
def zdC(s:ByteArray)(l:List Sg)(h:PtK s l)(hr:NoR l)(hok:ScOk l):Fn prog 12 [.agg [.str s,sgsA l]] (.tup [rdgA (rpV l),.agg [iv (rsK (rusV l) 0).1,iv (rsK (rusV l) 0).2]]):=by
 have hl:=h.hl;have x2:=zmy l;have K:=zBN hl;obtain⟨j1,j2,j3,j4⟩:=K;have z0:[]=rsR ((rusV l).take 0):=by unfold rsR;rfl
 have x1:(rsR (rusV l)).length=(rusV l).length:=by unfold rsR;rw[jD]
 refine bB func12 ntmps12 (λg w d=>?_);refine gc (zbe s l h hr hok) ?_;refine gd ?_ ?_<;>intro H
 ·exact absurd H ac
 apply yf;apply yc;refine ya ?_;apply yp;refine yk ?_;iterate 2 apply ye
 refine yl (yz rdgE 50 4 6 30 rfl rfl) ?_;refine gq ?_;refine zf (zlj s l h hok) ?_;refine yC ?_;apply kX;refine zag (ι:=Nat) [2,3,5,6,19,20] (λ(k:Nat)zz=>(21,iv (k:Int))::zz) [2,3] (λ(k:Nat)zz=>(30,.row rdgE (rsR ((rusV l).take k)) 50 4)::zz) (λ(k:Nat)=>k<=(rusV l).length/\rsK (rusV l) 0=rsK ((rusV l).drop k) k) (λ(k:Nat)=>(rusV l).length-k) 0 (λk hk=>?_) (hJ:=by exact⟨jU _,rfl⟩);obtain⟨k1,k2⟩:=hk;refine gd ?_ ?_<;>intro x0
 ·have G:=@getX _ (rusV l) k aa;obtain⟨r,Q,w2⟩:=G;have E:r.S.length<=1000:=by have:=zoO r (j6 Q);omega
  have v9:=zBK Q;have v8:(rsR ((rusV l).take k)).length<=1000:=by unfold rsR;rw[jD,jO];omega
  refine gc (zgZ r E (zze hok r (j6 Q))) ?_;refine gd ?_ ?_<;>intro N
  ·have hE:=zBP Q k2 N;have hV:rpV l=⟨[],[],[],[]⟩:=by unfold rpV;rw[hE];exact j8 N
   apply yc;(iterate 4 refine ya ?_);(iterate 2 refine bF ?_);apply bD;refine bC ?_;refine yi (c7 (ts:=[(2,.ptr 2 0 0 0),(3,.ptr 3 0 0 0)]) (hs:=[(2,.box [yj [],yj [],yj [],tmsA []] 50),(3,.box [iv (rdE r.M r.S),iv (k:Int)] 31)]) ⟨⟨_,rfl,bM _⟩,⟨_,rfl,bM _⟩,True.intro⟩ ⟨⟨_,rfl,LeB.box (.cons (bO _) (.cons (bO _) (.cons (bO _) (.cons (bO _) .nil))))⟩,⟨_,rfl,bN _⟩,True.intro⟩) ?_;refine bJ (.many ac (.cons (.cellA rfl rfl rfl rfl ty50 (kZ ?_)) (.cons (.cellA rfl rfl rfl rfl ty31 (kZ ?_)) .nil)));all_goals(first|exact zE hV|exact zE hE)
  have xT:=zBO Q k2 aa;refine gq ?_;refine yH rdgE [rdV r.M r.S] ?_;refine gq ?_;refine yr (k+1) (hJ:=by exact⟨aa,xT⟩) (hI:=kW)
 ·obtain rfl:k=(rusV l).length:=aa
  have hE:=zzd k2;have hV:rpV l=joV (rsR (rusV l)):=by unfold rpV;rw[hE];exact j7 rfl
  have hT:rsR ((rusV l).take (rusV l).length)=rsR (rusV l):=by rw[jR]
  apply bH;apply yc;refine ya ?_;refine yY (kY (k:=30) rfl) ?_;rw[hT];refine gc (zlk (rsR (rusV l)) aa j1 j2 j3 j4) ?_;refine bJ (.many ac (.cons (.cellA rfl rfl rfl rfl ty50 (kZ ?_)) (.cons (.cellA rfl rfl rfl rfl ty31 (kZ ?_)) .nil)));all_goals(first|exact zE hV|exact zE hE)
end
section
variable{k:Nat}{l:List Sg}{s:Sg}
def ovF(f:Tm)(s:Sg):Tm:=if s.Kind=5/\s.Stroke=true then⟨1,2⟩else if s.Kind=5 then⟨1,1⟩else f
def faF(l:List Sg)(k:Nat):Tm:=(l.take k).foldl ovF ⟨1,1⟩
def zHu(l:List Sg):⟨1,1⟩=faF l 0:=rfl
def zBQ(h:l[k]? =some s):ovF (faF l k) s=faF l (k+1):=by unfold faF;rw[jK,h];simp
def faL(l:List Sg)(k:Nat):List Tm:=(List.range k).map λi=>faF l (i+1)
def zBR(l:List Sg):[]=faL l 0:=rfl
def zBS(l:List Sg)(k:Nat):faL l k++[faF l (k+1)]=faL l (k+1):=by unfold faL;rw[wR];simp
def zw8(l:List Sg)(k:Nat):(faL l k).length=k:=by unfold faL;simp
attribute [local irreducible] faF faL
def zcu(f:Tm)(s:Sg)(h6:¬s.Kind=6):FnO prog 111 [.ptr 2000000 0 0 0,sgA s] [(2000000,.box [iv (f).N,iv (f).D,iv 0] 246)] [2000000] (.ptr 2000000 0 0 0) [(2000000,.box [iv (ovF f s).N,iv (ovF f s).D,iv 0] 246)]:=by
 refine c8 [.ptr 2000000 0 0 0] func111 ntmps111 (λg w d vs=>?_);apply yc;refine zl ?_;refine yk ?_;apply ye;apply kX;apply yc;refine ya ?_;refine ya ?_ (hs:=by exact yg rfl);refine gd ?_ ?_<;>intro G
 ·exact absurd rfl G
 apply yc;iterate 3 refine ya ?_
 refine bI 3 ?_;refine yw ?_;iterate 2 refine bE ?_
 refine gf ?_ ?_<;>intro K
 ·have H:ovF f s=⟨1,2⟩:=by unfold ovF;rw[j7 K]
  rw[H];apply yd;iterate 2 refine ya ?_
  refine ya ?_ (hs:=by exact yg rfl);refine ya ?_;refine bF ?_;apply Ex.nil;apply yc;refine yC ?_;refine bC ?_;refine znf.mk [(4,.ptr 2000000 0 0 0)] [] (.inr rfl) (.one (.tmp rfl (kZ ?_)));all_goals rfl
 ·refine gd ?_ ?_<;>intro Q
  ·have H:ovF f s=⟨1,1⟩:=by unfold ovF;rw[j8 (λa=>K.elim (λc=>c a.1) (λc=>by rw[c]at a;cases a.2)),j7 Q]
   rw[H];apply yd;(iterate 2 refine ya ?_);refine ya ?_ (hs:=by exact yg rfl);refine ya ?_;refine bF ?_;apply Ex.nil;apply yc;refine yC ?_;refine bC ?_;refine znf.mk [(4,.ptr 2000000 0 0 0)] [] (.inr rfl) (.one (.tmp rfl (kZ ?_)));all_goals rfl
  ·have H:ovF f s=f:=by unfold ovF;rw[j8 (λa=>Q a.1),j8 Q]
   rw[H];refine gd ?_ ?_<;>intro E
   ·exact absurd E h6
   apply yf;apply yc;refine yC ?_;refine bC ?_;refine znf.mk [(4,.ptr 2000000 0 0 0)] [] (.inr rfl) (.one (.tmp rfl (kZ ?_)));all_goals rfl
def zeg(nm:ByteArray)(l:List Sg)(hs:nm.size<=1000000)(hn:nmQ (bsB nm)=true)(hl:l.length<=400)(Q:∀x∈l,SgK x/\¬x.Kind=4)(h6:∀x∈l,¬x.Kind=6):Fn prog 65 [.agg [.str nm,sgsA l]] (.tup [tmsA (faL l l.length),iv 0]):=by
 refine bB func65 ntmps65 (λg w d=>?_);refine gc (zcd nm l hs hn hl Q) ?_;refine gd ?_ ?_<;>intro K
 ·exact absurd rfl K
 apply yf;apply yc;iterate 2 refine ya ?_
 refine zl ?_;refine ya ?_;apply yp;refine yk ?_;iterate 2 apply ye
 refine yl (yz tmE 35 2 7 39 rfl rfl) ?_;apply yd;refine ya ?_;refine yo ?_;apply kX;have hz:=zBR l;have xT:[iv 1,iv 1,iv 0]=[iv (faF l 0).N,iv (faF l 0).D,iv 0]:=by rw[←zHu]
 refine y9 [6,7,22,23] (λk zz=>(24,iv (k:Int))::zz) [] (λk zz=>(20,.box [iv (faF l k).N,iv (faF l k).D,iv 0] 246)::(39,.row tmE (faL l k) 35 2)::zz) l.length (λk hk=>?_);refine gd ?_ ?_<;>intro x2
 ·have H:=@getX _ l k aa;obtain⟨s,hx,x1⟩:=H;have G:=zBQ hx;have x0:=zBS l k;have w2:=zw8 l k;refine gq ?_;refine y0 [(2000000,20)] (zcu (faF l k) s (h6 s (j6 hx))) ?_;rw[G];refine ya ?_ (hs:=by exact yg rfl);refine gd ?_ ?_<;>intro E
  ·exact absurd rfl E
  apply yf;apply yd;iterate 2 refine ya ?_
  refine ya ?_ (hs:=by exact yg rfl);refine gq ?_;refine yH tmE [faF l (k+1)] ?_;refine gq ?_;refine yr (k+1) (hI:=kW)
 ·obtain rfl:k=l.length:=aa
  apply bH;apply yc;refine yo ?_;refine bC ?_;refine yi (kY (k:=39) rfl) ?_;refine yn ?_ ?_;all_goals rfl
end
section
variable{α:Type}{x:α}
structure TfK(l:List Sg)(D T:List Tm):Prop where
 n:D.length=(ntI l l.length).length
 t:T.length=D.length
 k:∀(k:Nat)(d:Tm)(i:Int)(t:Tm),D[k]? =some d->(ntI l l.length)[k]? =some i->T[k]? =some t->0<=i/\i<l.length/\∃f,(faL l l.length)[i.toNat]? =some f/\mulE d f=0/\mulV d f=t/\ckT d=0
def zBT{l:List α}{k:Nat}(h:l[k]? =some x):l.take k++[x]=l.take (k+1):=by rw[jK,h];rfl
def zzf{a b c:Tm}(h:mulE a b=0)(Q:mulV a b=c):Fn prog 66 [tmA a,tmA b] (.tup [tmA c,iv 0]):=by
 have:=zfz a b;rw[h,Q]at this;exact this
attribute [local irreducible] faF faL ntI mulE mulV ckT
def zjR(nm:ByteArray)(l:List Sg)(h:PtK nm l)(hr:NoR l)(hok:ScOk l)(hl:l.length<=400):Fn prog 37 [.agg [.str nm,sgsA l]] (.tup [yj (ntI l l.length),iv 0]):=by
 refine bB func37 ntmps37 (λg w d=>?_);refine gc (zbe nm l h hr hok) ?_;refine gd ?_ ?_<;>intro Q
 ·exact absurd rfl Q
 refine gc (zc7 nm l aa) ?_;refine yn ?_ ?_;all_goals rfl
def zfe(nm:ByteArray)(l:List Sg)(h:PtK nm l)(hr:NoR l)(hok:ScOk l)(hl:l.length<=400)(hf:Fn prog 65 [.agg [.str nm,sgsA l]] (.tup [tmsA (faL l l.length),iv 0]))(D T:List Tm)(H:TfK l D T):Fn prog 28 [.agg [.str nm,sgsA l],tmsA D] (.tup [tmsA T,iv 0]):=by
 have v4:=H.n;have G:=H.t;have v3:=zlE l l.length;have v2:=zw8 l l.length;refine bB func28 ntmps28 (λg w d=>?_);refine gc (zbe nm l h hr hok) ?_;refine gd ?_ ?_<;>intro E
 ·exact absurd rfl E
 refine gc (zc7 nm l aa) ?_;refine gd ?_ ?_<;>intro v1
 ·omega
 apply yf;apply ye;apply yc;refine yo ?_;apply kX;refine y9 [1,2,7,32,33] (λk zz=>(34,iv (k:Int))::zz) [2] (λ_ zz=>zz) D.length (λk hk=>?_);refine gd ?_ ?_<;>intro v0
 ·have N:=@getX _ D k aa;obtain⟨d,hd,xT⟩:=N;obtain⟨t,ht⟩:∃t,T[k]? =some t:=⟨_,lgg aa⟩;obtain⟨i,hi⟩:∃i,(ntI l l.length)[k]? =some i:=⟨_,lgg aa⟩;have x2:=H.k k d i t hd hi ht;obtain⟨_,_,f,_,_,_,K⟩:=x2;refine gc (zaz d) ?_;refine gd ?_ ?_<;>intro x1
  ·exact absurd K x1
  refine gq ?_;refine yr (k+1) (hI:=kW)
 ·refine gc hf ?_;refine gd ?_ ?_<;>intro x0
  ·exact absurd rfl x0
  apply yf;apply yc;refine yk ?_;iterate 2 apply ye
  refine yl (yz tmE 35 2 13 39 rfl rfl) ?_;apply yd;refine yo ?_;apply kX;have hz:[]=T.take 0:=ah
  refine y9 [1,7,11,13,52,53] (λk zz=>(54,iv (k:Int))::zz) [] (λk zz=>(39,.row tmE (T.take k) 35 2)::zz) D.length (λk hk=>?_);refine gd ?_ ?_<;>intro k9
  ·have N:=@getX _ D k aa;obtain⟨d,hd,xT⟩:=N;obtain⟨t,ht⟩:∃t,T[k]? =some t:=⟨_,lgg aa⟩;have N:=@getX _ (ntI l l.length) k aa;obtain⟨i,hi,k8⟩:=N;have w2:=H.k k d i t hd hi ht;obtain⟨k7,k6,f,k5,v9,v8,K⟩:=w2;have k4:=zBT ht;have k3:(T.take k).length<=400:=by rw[jO];omega
   refine gq ?_;refine y4 [16,59,60,61,62,63,64,65,66,67,68,69,70] [0,0,3,7,0,0,48,112,255,511,1023,1023,0,6143,16383] mo ?_;(iterate 8 refine yb ?_);refine yI (zzf v9 v8) ?_;(iterate 3 refine yb ?_);refine ChM.step rfl rfl rfl (zd (k:=16) zc35) rfl ?_;refine zar 11 ⟨[(1,tmsA D),(7,yj (ntI l l.length)),(11,tmsA (faL l l.length)),(13,.own 39),(16,.ptr 16 0 0 0),(17,iv 0),(52,yj (ntI l l.length)),(53,iv ((ntI l l.length).length:Int)),(54,iv (k:Int))],[(39,.row tmE (T.take k) 35 2),(16,.box (tmE t) 35)]⟩ (λQ hQ=>?_) (λQ hQ=>?_) ?_
   ·refine bF ?_;refine ya ?_;exact yY kW hQ
   ·refine bF ?_;(iterate 2 refine ya ?_);exact yY kW hQ
   refine gd ?_ ?_<;>intro v5
   ·exact absurd rfl v5
   refine gq ?_;refine yH tmE [t] ?_;refine gq ?_;refine yr (k+1) (hI:=kW)
  ·obtain rfl:k=D.length:=aa
   have hE:T.take D.length=T:=by rw[←G,jR]
   apply bH;apply yc;refine yo ?_;refine bC ?_;refine yi (kY (k:=39) rfl) ?_;refine yn ?_ ?_;all_goals(first|rfl|exact jA (λz=>tmsA z) hE)
end
section
variable{k n:Nat}{zs:List AV}
structure Pl where
 S:Int
 Ps:Int
def plE:Pl->List AV:=λp=>[iv p.S,iv p.Ps]
def stX(n:Nat):List (List AV):=(List.range n).map λ(i:Nat)=>[iv (i:Int),iv 0]
theorem znG(h:k<n):(stX n)[k]? =some [iv (k:Int),iv 0]:=by unfold stX;simp[h]
theorem zll(n:Nat):(stX n).length=n:=by unfold stX;simp
def zeN(h:(stX n)[k]? =some zs):k<n/\zs=[iv (k:Int),iv 0]:=by
 grind[zll,znG]
def plL(n:Nat):List Pl:=(List.range n).map λ(i:Nat)=>⟨(i:Int),0⟩
def zBU:[]=plL 0:=rfl
def zBV(n:Nat):plL n++[⟨(n:Int),0⟩]=plL (n+1):=by unfold plL;rw[wR];simp
def zoS(n:Nat):(plL n).length=n:=by unfold plL;simp
section
variable{P:Program}{C:Ctx}{st:St}{ty xt yt:TypeId}{x y:Operand}{k:IntKind}{p q:Int}
def zrq(hx:ev st x=some (.int k p))(Q:ev st y=some (.int k q))(h:¬p=q):Pur P C (.binOp .neq xt x y yt) ty st (.bool true):=by
 have:=zxN (P:=P) (C:=C) (xt:=xt) (yt:=yt) (ty:=ty) hx Q
 grind
end
attribute [local irreducible] stX plL
def zfX(l:List Sg):Fn prog 203 [sgsA l,iv 0,iv (l.length:Int),iv 0] (.fn 240 [.ept (λ_:Unit=>[iv 0]) () 0,.ept (λ_:Unit=>[iv (l.length:Int)]) () 0,.ept (λ_:Unit=>[sgsA l]) () 0,.ept (λ_:Unit=>[iv 0]) () 0]):=by
 refine bB func203 ntmps203 (λg w d=>?_);apply yc;iterate 4 refine zax ?_
 refine ya ?_;apply yp;refine yC ?_;refine bC ?_;refine yi ((bG (k:=4) rfl rfl).trans ((bG (k:=5) rfl rfl).trans ((bG (k:=6) rfl rfl).trans (bG (k:=7) rfl rfl)))) ?_;refine gq ?_;all_goals rfl
def ze1(l:List Sg)(hr:NoR l)(hl:l.length<=4000000):It prog 240 [.ept (λ_:Unit=>[iv 0]) () 0,.ept (λ_:Unit=>[iv (l.length:Int)]) () 0,.ept (λ_:Unit=>[sgsA l]) () 0,.ept (λ_:Unit=>[iv 0]) () 0] (stX l.length):=by
 refine zc1 func240 ntmps240 (λg w d ds Y lY H=>?_);apply yc;refine yC ?_;apply kX;refine y9 [0,1,2,3,4] (λk zz=>(6,iv (k:Int))::zz) [] (λk zz=>(1000000,.yld k true)::zz) l.length (λk hk=>?_);refine gd ?_ ?_<;>intro G
 ·have N:=@getX _ l k aa;obtain⟨x,hx,E⟩:=N;have K:=hr x (j6 hx);apply yf;apply ye;apply kX;apply yc;iterate 6 refine ya ?_
  apply yp;refine ya ?_;refine yO (zrq rfl rfl K.1) rfl ?_;refine ya ?_;refine zk rfl rfl rfl ?_;refine ya ?_;refine zk rfl rfl rfl ?_;refine yO (zrq rfl rfl K.2) rfl ?_;iterate 2 refine ya ?_
  refine zk rfl rfl rfl ?_;refine ya ?_;refine zk rfl rfl rfl ?_;refine ya ?_;refine zk rfl rfl rfl ?_;refine ya ?_;refine zk rfl rfl rfl ?_;refine bX H rfl rfl rfl (bK _) rfl rfl (znG aa) rfl (λb=>?_);refine zk rfl rfl rfl ?_;refine ya ?_;refine yO (zey rfl rfl rfl) rfl ?_;refine gd ?_ ?_<;>intro Q
  ·subst Q;refine bC ?_;refine⟨.inr rfl,_,false,rfl,λhb=>by simp at hb⟩
  subst Q;refine gq ?_;refine yr (k+1) (hI:=kW)
 ·obtain rfl:k=l.length:=aa
  have hV:=zll l.length;apply bH;refine⟨.inl rfl,_,true,rfl,λ_=>hV.symm⟩
def zjS(l:List Sg):Fn prog 162 [sgsA l,iv 0,.nils] (.fn 202 [.ept (λ_:Unit=>[sgsA l]) () 0,.ept (λ_:Unit=>[.nils]) () 0,.ept (λ_:Unit=>[iv 0]) () 0]):=by
 refine bB func162 ntmps162 (λg w d=>?_);apply yc;iterate 3 refine zax ?_
 refine ya ?_;apply yp;refine yC ?_;refine bC ?_;refine yi ((bG (k:=3) rfl rfl).trans ((bG (k:=4) rfl rfl).trans (bG (k:=5) rfl rfl))) ?_;refine gq ?_;all_goals rfl
def zhM(q:List Sg)(hr:NoR q)(hl:q.length<=4000000):It prog 202 [.ept (λ_:Unit=>[sgsA q]) () 0,.ept (λ_:Unit=>[.nils]) () 0,.ept (λ_:Unit=>[iv 0]) () 0] (stX q.length):=by
 refine zc1 func202 ntmps202 (λg w d ds Y lY hY=>?_);apply yc;refine zax ?_;refine gd ?_ ?_<;>intro K
 ·exact absurd K ac
 refine gc (zfX q) ?_;refine bV (sl:=[1,2,4]) (λj=>([.ept (λ_:Unit=>[sgsA q]) () 0,.ept (λ_:Unit=>[.nils]) () 0,.ptr 4 0 0 0],[(4,.box [.yv lY] 264),(1000000,.yld j true)])) (λj=>True) 900001 900002 rfl rfl ac (λj zs Q=>by obtain⟨_,rfl⟩:=zeN Q;rfl) ((ze1 q hr hl)) trivial rfl rfl ac (jG _) ah (λj zs Q=>by obtain⟨_,rfl⟩:=zeN Q;rfl) (λ_=>rfl) rfl rfl (λl o us=>yh) (trivial) (λj zs Q hJ l ready busy rb vs g w hb xT=>?_) (λhJ=>?_)
 ·have H:=zeN Q;obtain⟨G,rfl⟩:=H;apply yc;refine yk ?_;apply yd;refine yk ?_;refine⟨rfl,rfl,?_⟩;apply kX;apply yc;iterate 3 refine ya ?_
  refine bX hY rfl rfl rfl (bK _) rfl rfl (znG G) rfl (λb=>?_);refine gd ?_ ?_<;>intro N
  ·subst N;refine bC ?_;refine⟨[.ept (λ_:Unit=>[sgsA q]) () 0,.ept (λ_:Unit=>[.nils]) () 0,.ptr 4 0 0 0],[(4,.box [.yv lY] 264),(1000000,.yld j false)],yh,?_⟩;refine⟨.inr rfl,_,false,rfl,λhb=>by simp at hb⟩
  subst N;apply yf;refine⟨[.ept (λ_:Unit=>[sgsA q]) () 0,.ept (λ_:Unit=>[.nils]) () 0,.ptr 4 0 0 0],[(4,.box [.yv lY] 264),(1000000,.yld (j+1) true)],yh,rfl,trivial⟩
 refine gd ?_ ?_<;>intro E
 ·refine bC ?_;refine⟨.inr rfl,_,true,rfl,λ_=>rfl⟩
 exact absurd rfl E
def zhN(nm:ByteArray)(q:List Sg)(h:PtK nm q)(hr:NoR q):FnO prog 113 [.agg [.str nm,sgsA q]] [] [] (.tup [.own 39,iv 0]) [(39,.row plE (plL q.length) 138 2)]:=by
 have hl:=h.hl;refine bR [] func113 ntmps113 (λg w d vh=>?_);refine gc (zef nm q h hr) ?_;refine gd ?_ ?_<;>intro N
 ·exact absurd rfl N
 refine gq ?_;refine zf (zfd q aa hr) ?_;iterate 7 refine ya ?_
 apply yp;refine yP ?_;apply bD;iterate 2 apply ye
 refine yl (zK plE 138 2 9 39 134 rfl rfl) ?_;refine gq ?_;refine zf (zjS q) ?_;apply bD;apply kX;have hz:=zBU;refine bV (sl:=[9]) (λj=>([.ptr 9 0 0 0],[(1000001,.hold vh []),(9,.box [.own 39] 134),(39,.row plE (plL j) 138 2)])) (λj=>True) 900001 900002 rfl rfl ac (λj zs Q=>by obtain⟨_,rfl⟩:=zeN Q;rfl) ((zhM q hr aa)) trivial rfl rfl ac (jU _) ah (λj zs Q=>by obtain⟨_,rfl⟩:=zeN Q;rfl) (λ_=>rfl) rfl rfl (λl o us=>kW) (trivial) (λj zs Q hJ l ready busy rb vs g w hb H=>?_) (λhJ=>?_)
 ·have K:=zeN Q;obtain⟨G,rfl⟩:=K;have E:=zBV j;have xT:=zoS j;apply yc;refine yk ?_;apply yd;refine yk ?_;refine⟨rfl,rfl,?_⟩;refine gq ?_;refine yH plE [⟨(j:Int),0⟩] ?_;iterate 2 refine bF ?_
  apply bD;refine⟨[.ptr 9 0 0 0],[(1000001,.hold vh []),(9,.box [.own 39] 134),(39,.row plE (plL (j+1)) 138 2)],kW,rfl,trivial⟩
 apply yc;refine yo ?_;refine bC ?_;rw[zll];refine zm4.mk (ts:=[(2,.own 39),(3,iv 0)]) (.inr rfl) (yh) (.many ac (.cons (.tmp rfl (kZ rfl)) (.cons (.tmp rfl (kZ rfl)) .nil)))
end
section
variable{k:Nat}{l:List Sg}{n:Nat}{us:List Int}{zs:List AV}
def plZ:Pl:=⟨0,0⟩
def kpQ(l:List Sg)(p:Pl):Bool:=tmd (l.getD p.S.toNat default)
def kpL(l:List Sg)(L:List Pl)(k:Nat):List Pl:=(L.take k).filter (kpQ l)
def zBW{L:List Pl}{x:Pl}(h:L[k]? =some x)(Q:kpQ l x=true):kpL l L (k+1)=kpL l L k++[x]:=by simp_all[kpL,jK]
def zw9{L:List Pl}{x:Pl}(h:L[k]? =some x)(Q:kpQ l x=false):kpL l L (k+1)=kpL l L k:=by simp_all[kpL,jK]
def zzg{A B:List Pl}{x:Pl}(h:A.length<B.length):(A++B.drop A.length).set A.length x=A++[x]++B.drop (A.length+1):=by
 grind[List.drop_eq_getElem_cons]
def zzh(l:List Sg):kpL l (plL l.length) l.length=(ntI l l.length).map λi=>⟨i,0⟩:=by
 unfold kpL plL ntI;rw[wE ah,List.filter_map,List.map_map];rfl
def zBX(h:k<n):(plL n)[k]? =some ⟨(k:Int),0⟩:=by unfold plL;simp[h]
def zBY{x:Pl}(h:x∈plL n):0<=x.S/\x.S<n:=by
 grind[plL]
def ofM{α:Type}[Inhabited α](I:List Int)(T:List α):Nat->List (Int×α)
 |0=>[]
 |k+1=>mput (I.getD k 0) (T.getD k default) (ofM I T k)
section
variable{α:Type}[Inhabited α]{I:List Int}{T:List α}
variable{i:Int}{k:Nat}{t:α}
def zrr(hi:I[k]? =some i)(ht:T[k]? =some t):mput i t (ofM I T k)=ofM I T (k+1):=by
 simp_all[ofM]
def zlm(hn:I.Nodup)(hl:T.length=I.length):∀k,k<=T.length->∀j,j<k->∀i t,I[j]? =some i->T[j]? =some t->mget i (ofM I T k)=some t
 |0,_,j,h,_,_,_,_=>absurd h (vU _)
 |k+1,hk,j,K,i,t,hi,ht=>by
  obtain⟨i2,Q⟩:∃i,I[k]? =some i:=⟨_,lgg aa⟩;obtain⟨t2,N⟩:∃t,T[k]? =some t:=⟨_,lgg aa⟩;rw[←zrr Q N,zeI];by_cases e:j=k
  ·simp_all
  ·rw[j8,zlm hn hl k aa j aa i t hi ht]
   grind[List.getElem?_inj]
end
def zxa(l:List Sg)(n:Nat):(ntI l n).Nodup:=by
 unfold ntI;refine List.Pairwise.map _ (λa b h=>by omega) (List.nodup_range.filter _)
def enX(us:List Int):List (List AV):=(List.range us.length).map λk=>[tmA (tq (pf us k)),tmA (tq (pf us (k+1)))]
theorem zrs(h:k<us.length):(enX us)[k]? =some [tmA (tq (pf us k)),tmA (tq (pf us (k+1)))]:=by unfold enX;simp[h]
theorem zln(us:List Int):(enX us).length=us.length:=by unfold enX;simp
def zlo(h:(enX us)[k]? =some zs):k<us.length/\zs=[tmA (tq (pf us k)),tmA (tq (pf us (k+1)))]:=by
 grind[zln,zrs]
def atL(us:List Int)(k:Nat):List Tm:=(List.range k).map λi=>tq (pf us i)
def zBZ(us:List Int):[]=atL us 0:=rfl
def zB0(us:List Int)(k:Nat):atL us k++[tq (pf us k)]=atL us (k+1):=by unfold atL;rw[wR];simp
def zoT(us:List Int)(k:Nat):(atL us k).length=k:=by unfold atL;simp
def zrt{a b:Int}(Q:Uq a)(N:Uq b)(h:a+b<=1000000000):Fn prog 32 [tmA (tq a),tmA (tq b)] (.tup [tmA (tq (a+b)),iv 0]):=by
 have:=zaQ (tq a) (tq b);rw[(znP Q N h).1,(znP Q N h).2]at this;exact this
attribute [local irreducible] ntI kpL plL ofM atL enX tq pf mget mput
def zeh(nm:ByteArray)(l:List Sg)(x:Pl)(h0:0<=x.S)(h1:x.S<l.length):Fn prog 115 [.agg (plE x),.ept (λ_:Unit=>[.str nm,sgsA l]) () 0] (.bool (!kpQ l x)):=by
 obtain⟨s,hs⟩:∃s,l[x.S.toNat]? =some s:=⟨_,lgg aa⟩;have Q:kpQ l x=tmd s:=by unfold kpQ;rw[jB,hs];rfl
 refine bB func115 ntmps115 (λg w d=>?_);refine gc (zfi s) ?_;all_goals rw[Q]
def zaI(nm:ByteArray)(l:List Sg)(L:List Pl)(hL:L.length<=1000000)(x:Pl)(h0:L[0]? =some x)(hx:kpQ l x=false)(hi:∀x∈L,0<=x.S/\x.S<l.length):FnO prog 163 [.own 2000005,.fn 115 [.ept (λ_:Unit=>[.str nm,sgsA l]) () 0]] [(2000005,.row plE L 138 2)] [2000005] (iv 0) [(2000005,.row plE L 138 2)]:=by
 have H:=(j5.1 h0).1;have G:L[(0:Int).toNat]? =some x:=h0;have Q:=hi x (j6 h0);have K:=zeh nm l x Q.1 Q.2;rw[hx]at K;refine bR [.own 2000005] func163 ntmps163 (λg w d vs=>?_);apply yc;refine yk ?_;apply ye;apply yc;refine yo ?_;apply kX;refine zag (ι:=Nat) [0,1,7] (λ(k:Nat)zz=>(8,iv (k:Int))::zz) [1000001,2000005] (λ(k:Nat)zz=>zz) (λ(k:Nat)=>k=0) (λ(k:Nat)=>1) 0 (λk hk=>?_);subst hk;refine gd ?_ ?_<;>intro E
 ·apply yf;apply ye;apply kX;apply yc;iterate 2 refine ya ?_
  apply yp;iterate 4 refine ya ?_
  refine yO (zQ rfl rfl ai rfl rfl zkQ) rfl ?_;refine gc K ?_;refine gd ?_ ?_<;>intro N
  ·apply yc;refine yC ?_;refine bC ?_;refine zm4.mk (ts:=[(4,iv 0)]) (.inr rfl) (yh) (.one (.tmp rfl (kZ rfl)))
  cases N
 ·omega
def zaD(nm:ByteArray)(l:List Sg)(L:List Pl)(hL:L.length<=1000000)(x:Pl)(h0:L[0]? =some x)(hx:kpQ l x=false)(hi:∀x∈L,0<=x.S/\x.S<l.length):FnO prog 114 [.own 2000000,.fn 115 [.ept (λ_:Unit=>[.str nm,sgsA l]) () 0]] [(2000000,.row plE L 138 2)] [] (.own 2000000) [(2000000,.row plE (kpL l L L.length) 138 2)]:=by
 have w2:=(j5.1 h0).1;have K:kpL l L 1=[]:=by rw[zw9 h0 hx];unfold kpL;rfl
 have v9:L=kpL l L 1++L.drop (kpL l L 1).length:=by rw[K];rfl
 have v8:(0:Int)=((kpL l L 1).length:Int):=by rw[K];rfl
 refine bR [] func114 ntmps114 (λg w d vs=>?_);refine gq ?_;refine y0 [(2000005,2000000)] (zaI nm l L hL x h0 hx hi) ?_;refine gd ?_ ?_<;>intro x2
 ·exact absurd x2 ac
 apply yf;apply ye;apply yc;refine yo ?_;apply kX;refine zag (ι:=Nat) [0,1] (λ(j:Nat)zz=>(5,iv ((kpL l L j).length:Int))::(6,iv (j:Int))::zz) [1000001] (λ(j:Nat)zz=>(2000000,.row plE (kpL l L j++L.drop (kpL l L j).length) 138 2)::zz) (λ(j:Nat)=>1<=j/\j<=L.length/\(kpL l L j).length<j) (λ(j:Nat)=>L.length-j) 1 (λj hk=>?_) (hJ:=by exact⟨aa,aa,by rw[K];exact Nat.one_pos⟩);obtain⟨v5,v4,v3⟩:=hk;have v2:(kpL l L j++L.drop (kpL l L j).length).length=L.length:=aj
 refine gd ?_ ?_<;>intro v1
 ·obtain⟨v,N⟩:∃v,L[j]? =some v:=⟨_,lgg aa⟩;have G:=hi v (j6 N);have v0:(kpL l L j++L.drop (kpL l L j).length)[(j:Int).toNat]? =some v:=by rw[jN,wC aa,wI,show(kpL l L j).length+(j-(kpL l L j).length)=j by omega];exact N
  apply yf;apply ye;apply kX;apply yc;iterate 3 refine ya ?_
  refine yO (zQ rfl rfl ai rfl rfl zkQ) rfl ?_;refine gc (zeh nm l v G.1 G.2) ?_;refine gd ?_ ?_<;>intro E
  ·have Q:=zBW N E;have xT:(kpL l L (j+1)).length=(kpL l L j).length+1:=by rw[Q];simp
   have H:(kpL l L j++L.drop (kpL l L j).length).set (((kpL l L j).length:Nat):Int).toNat v=kpL l L (j+1)++L.drop (kpL l L (j+1)).length:=by rw[jN,zzg aa,xT,Q]
   apply yc;iterate 4 refine ya ?_
   refine yX (zaU v rfl rfl (λ_=>rfl) ac aa rfl rfl rfl rfl rfl zkQ) ?_;refine gq ?_
   refine yr (j+1) (hJ:=by
    refine⟨aa,aa,aa⟩) (hI:=kW)
  ·have Q:=zw9 (l:=l) N E;have xT:(kpL l L (j+1)).length=(kpL l L j).length:=by rw[Q]
   have H:kpL l L j++L.drop (kpL l L j).length=kpL l L (j+1)++L.drop (kpL l L (j+1)).length:=by rw[Q]
   refine gq ?_
   refine yr (j+1) (hJ:=by
    refine⟨aa,aa,aa⟩) (hI:=kW)
 ·obtain rfl:j=L.length:=aa
  have x1:(((kpL l L L.length).length:Nat):Int).toNat+((kpL l L L.length++L.drop (kpL l L L.length).length).length-(((kpL l L L.length).length:Nat):Int).toNat)=(kpL l L L.length++L.drop (kpL l L L.length).length).length:=by rw[jN];omega
  apply bH;apply yc;iterate 2 refine ya ?_
  refine yO (y8 rfl rfl rfl zp2 zkQ aa aa) rfl ?_;refine yX (zpH plZ rfl rfl (λ_=>rfl) ac zp2 zyn rfl rfl rfl x1) ?_;refine gq ?_;refine yX (zjB rfl rfl rfl zp2 zkQ aa aj rfl) ?_;refine yk ?_;refine bC ?_
  have x0:List.take (((kpL l L L.length).length:Nat):Int).toNat (List.take (((kpL l L L.length).length:Nat):Int).toNat (kpL l L L.length++L.drop (kpL l L L.length).length)++List.replicate ((kpL l L L.length++L.drop (kpL l L L.length).length).length-(((kpL l L L.length).length:Nat):Int).toNat) plZ)=kpL l L L.length:=by
   rw[jN,wM ah,kS,Nat.min_self,wM (jG _),wE (jG _)]
  refine zm4.mk (ts:=[(4,.own 2000000)]) (.inr rfl) (yh) (.one (.tmp rfl (kZ rfl)))
def zfY(nm:ByteArray)(l:List Sg)(h:PtK nm l)(hr:NoR l)(s:Sg)(h0:l[0]? =some s)(hs:tmd s=false):Fn prog 68 [.agg [.str nm,sgsA l]] (.sl plE ((ntI l l.length).map λi=>⟨i,0⟩)):=by
 have hl:=h.hl;have Q:=(j5.1 h0).1;have N:=zoS l.length;have hx:kpQ l ⟨((0:Nat):Int),0⟩=false:=by unfold kpQ;rw[jB];show tmd (l[0]?.getD default)=_;rw[h0];exact hs
 have K:=zzh l;refine bB func68 ntmps68 (λg w d=>?_);refine gq ?_;refine y0 [(39,39)] (zhN nm l h hr) ?_;iterate 2 refine ya ?_
 refine yo ?_;apply ye;refine yl (bG (k:=1) rfl rfl) ?_;refine gq ?_;refine y0 [(2000000,39),(2000002,40)] (zfK 2000002 (zaD nm l (plL l.length) aa ⟨((0:Nat):Int),0⟩ (zBX Q) hx (λx hx=>zBY hx)) rfl) ?_;refine yk ?_;refine bC ?_;refine yi (kY (k:=40) rfl) ?_;refine gq ?_;all_goals(first|rfl|exact jA (λz=>AV.sl plE z) (by rw[N];exact K))
def zlp(nm:ByteArray)(l:List Sg)(h:PtK nm l)(hr:NoR l)(hok:ScOk l)(s:Sg)(h0:l[0]? =some s)(hs:tmd s=false):Fn prog 40 [.agg [.str nm,sgsA l]] (.tup [.sl plE ((ntI l l.length).map λi=>⟨i,0⟩),iv 0]):=by
 refine bB func40 ntmps40 (λg w d=>?_);refine gc (zbe nm l h hr hok) ?_;refine gd ?_ ?_<;>intro Q
 ·exact absurd rfl Q
 refine gc (zfY nm l h hr s h0 hs) ?_;refine yn ?_ ?_;all_goals exact zR
def zlq(nm:ByteArray)(l:List Sg)(T:List Tm):FnO prog 29 [.agg [.str nm,sgsA l],tmsA T,.ptr 2000000 0 0 0] [(2000000,.box [iv 0] 29)] [2000000] (.fn 67 [.ept (λ_:Unit=>[.str nm,sgsA l]) () 0,.ept (λ_:Unit=>[tmsA T]) () 0,.ptr 5 0 0 0]) [(5,.box [.ptr 2000000 0 0 0] 109),(2000000,.box [iv 0] 29)]:=by
 refine bR [.ptr 2000000 0 0 0] func29 ntmps29 (λg w d vs=>?_);apply yc;refine zl ?_;iterate 2 refine zax ?_
 refine ya ?_;apply yp;refine yC ?_;refine bC ?_;refine zI ((bG (k:=3) rfl rfl).trans (bG (k:=4) rfl rfl)) ?_;refine zm4.mk (ts:=[(6,.fn 67 [.ept (λ_:Unit=>[.str nm,sgsA l]) () 0,.ept (λ_:Unit=>[tmsA T]) () 0,.ptr 5 0 0 0])]) (.inr rfl) (yh) (.one (.tmp rfl (kZ rfl)))
end
section
def voD(us:List Int)(p:Int):List Int:=us.take (nx us p)++(if pf us (nx us p)<p then[p-pf us (nx us p)]else[])
section
variable{us:List Int}{k:Nat}{p d:Int}{t:Bool}{S:List (Nat×Int×Bool)}
variable{S':List (Nat×Int×Bool)}{d':Int}{k':Nat}{t':Bool}
theorem zxb(Q:Pos us)(h:chP us ((k,d,t)::S) p):nx us p=k:=by
 obtain⟨h1,N,K,H,G,E⟩:=h;exact zdm Q aa N (.inr aa)
def zHv(Q:Pos us):voD us 0=[]:=by
 have:nx us 0=0:=by
  cases us with
  |nil=>rfl
  |cons u r=>have:=Q u ah;rw[nx,j8 aa]
 grind[voD,ziZ]
def zHw(Q:Pos us):voD us us.sum=us:=by
 have:nx us us.sum=us.length:=zdm Q (jG _) (by rw[zaA];omega) (.inl rfl)
 grind[voD,zaA]
def zHx(Q:Pos us)(h:chP us ((k,d,t)::S) p):voD us p=if pf us k<p then us.take k++[p-pf us k]else us.take k:=by
 grind[voD,zxb]
def zHy(Q:Pos us)(h:chP us ((k,d,t)::S) p):voD us (p+d)=us.take k++[p-pf us k+d]:=by
 obtain⟨h1,N,K,H,G,E⟩:=h;by_cases c:p+d<pf us (k+1)
 ·have:nx us (p+d)=k:=zdm Q aa aa (.inr c)
  grind[voD]
 ·have e:nx us (p+d)=k+1:=zdm Q aa aa (by
   rcases wH (k+1) us.length with h|h
   ·have:=zhu Q h;exact .inr aa
   ·exact .inl aa)
  grind[pf,voD,List.take_add_one]
def zru(Q:Pos us)(h:chP us ((k,d,t)::(k',d',t')::S') p):t=decide (pf us k'<p+d):=by
 have N:=zxb Q h.2.2.2.2.2;obtain⟨h1,G,E,h5,K,H⟩:=h;obtain⟨g1,g3,g4,g5,g6,g7⟩:=H;rw[K];refine decide_eq_decide.2 ⟨λc=>?_,λc=>?_⟩
 ·have:nx us (p+d)=k:=zdm Q aa aa (.inr c);rw[this]at N;subst N;omega
 grind[zdm,zhu]
end
end
end Go.Rse
