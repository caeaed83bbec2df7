/-
  Walks.
-/
import Derived.Test.YtpapdhoblekoeaaGreatDoorZJShelf1
set_option linter.all false
set_option maxHeartbeats 4000000
namespace Go.Rse
open Go Go.Proofs Go.Proofs.Tryz
attribute [local irreducible] Pur yy yu Ex X Fn Imp LeV LeB FnO It yA
section
attribute [local irreducible] ckD
def zc5(m:Mn)(z:List Sg)(hl:z.length<=1000)(hn:NC z):FnO prog 192 [mnA m,sgsA z] [] [] (.tup [.own 39,iv (ckD m z)]) [(39,.row intE [] 3 1)]:=by
 refine bR [] func192 ntmps192 (λg w d vh=>?_);refine gc (zcT m z hl) ?_;refine gd ?_ ?_<;>intro N
 ·apply yc;refine yo ?_;refine bC ?_;refine zI (yz intE 3 1 4 39 rfl rfl) ?_;refine zm4.mk (ts:=[(4,.own 39),(5,iv (ckD m z))]) (.inr rfl) (yh) (.many ac (.cons (.tmp rfl (kZ rfl)) (.cons (.tmp rfl (kZ rfl)) .nil)))
 apply yf;apply yc;refine yP ?_;apply bD;iterate 2 apply ye
 refine yl (zK intE 3 1 7 39 22 rfl rfl) ?_;refine gc (zj2 m z) ?_;refine bV (sl:=[7]) (λj=>([.ptr 7 0 0 0],[(1000001,.hold vh []),(7,.box [.own 39] 22),(39,.row intE [] 3 1)])) (λj=>True) 900001 900002 rfl rfl ac (λj zs Q=>by simp at Q) (zhZ m z aa hn) trivial rfl rfl ac (jU _) ah (λj zs Q=>by simp at Q) (λ_=>rfl) rfl rfl (λl o us=>yh) (trivial) (λj zs Q hJ l ready busy rb vs g w H K=>?_) (λhJ=>?_)
 ·simp at Q
 apply yc;refine yo ?_;refine bC ?_;refine zm4.mk (ts:=[(4,.own 39),(5,iv (ckD m z))]) (.inr rfl) (yh) (.many ac (.cons (.tmp rfl (kZ rfl)) (.cons (.tmp rfl (kZ rfl)) .nil)))
end
section
def colN(m:Mn)(l:List Sg):Int:=if ckD m l=0 then 1 else 0
end
section
attribute [local irreducible] ckD
def zk8(m:Mn)(l:List Sg)(hl:l.length<=1000)(hn:NC l):Fn prog 153 [mnA m,sgsA l] (.tup [yj [],iv (ckD m l)]):=by
 refine bB func153 ntmps153 (λg w d=>?_);refine gq ?_;refine y0 [(39,39)] (zc5 m l hl hn) ?_;refine gd ?_ ?_<;>intro Q
 ·apply yc;refine yo ?_;refine bC ?_;refine yi (yh (ts:=[(4,yj []),(5,iv (ckD m l))]) (hs:=[])) ?_;refine yn ?_ ?_;all_goals(first|rfl|exact jA (AV.int .i64) Q.symm)
 apply yf;apply ye;apply yc;refine yo ?_;apply kX;refine y9 [6,7,19] (λk zz=>(20,iv (k:Int))::zz) [39] (λk zz=>zz) 0 (λk hk=>?_);refine gd ?_ ?_<;>intro N
 ·exact absurd N (kQ.2 (Int.natCast_nonneg k))
 ·apply bH;apply yc;refine yo ?_;refine bC ?_;refine yi (kY (k:=39) rfl) ?_;refine yn ?_ ?_;all_goals(first|rfl|exact jA (AV.int .i64) Q.symm)
def zfa(m:Mn)(l:List Sg)(hl:l.length<=1000)(hn:NC l):Fn prog 331 [mnA m,sgsA l] (.tup [iv (colN m l),iv (ckD m l)]):=by
 refine bB func331 ntmps331 (λg w d=>?_);refine gq ?_;refine y0 [(39,39)] (zc5 m l hl hn) ?_;refine gd ?_ ?_<;>intro Q
 ·apply yc;refine yo ?_;refine bC ?_;refine yi (yh (ts:=[(4,iv 0),(5,iv (ckD m l))]) (hs:=[])) ?_;refine yn ?_ ?_;all_goals(first|rfl|exact jA (AV.int .i64) (j8 Q).symm|exact jA (AV.int .i64) (j7 Q).symm|exact jA (AV.int .i64) Q.symm)
 refine gd ?_ ?_<;>intro N
 ·exact absurd N ac
 apply yf;apply yc;iterate 2 refine ya ?_
 refine ya (hs:=zth rfl rfl ac ac rfl) ?_;refine yC ?_;refine bC ?_;refine yi (yh (ts:=[(4,iv 1),(5,iv 0)]) (hs:=[])) ?_;refine yn ?_ ?_;all_goals(first|rfl|exact jA (AV.int .i64) (j8 Q).symm|exact jA (AV.int .i64) (j7 Q).symm|exact jA (AV.int .i64) Q.symm)
end
section
attribute [local irreducible] ckD
def znu(m:Mn)(l:List Sg)(hl:l.length<=1000)(hn:NC l)(h0:ckD m l=0):Fn prog 273 [mnA m,sgsA l,iv 0] (.tup [yj [],iv 0]):=by
 have Q:=zfa m l hl hn;unfold colN at Q;rw[j7 h0,h0]at Q;refine bB func273 ntmps273 (λg w d=>?_);refine gc Q ?_;refine gd ?_ ?_<;>intro N
 ·exact absurd rfl N
 apply yf;apply ye;apply yc;iterate 2 refine ya ?_
 refine bI 2 ?_;refine yw ?_;iterate 3 refine bE ?_
 refine gf ?_ ?_<;>intro K
 ·omega
 apply yf;apply yc;refine yk ?_;iterate 2 apply ye
 refine yl (yz intE 3 1 10 10 rfl rfl) ?_;apply yd;refine ya ?_;refine ya (hs:=zAg rfl rfl) ?_;refine yk ?_;apply kX;refine y9 [2,10] (λk zz=>(11,iv 0)::zz) [10] (λk zz=>zz) 0 (λk hk=>?_);refine gd ?_ ?_<;>intro H
 ·omega
 ·apply bH;apply yc;refine yo ?_;refine bC ?_;refine yi (kY (k:=10) rfl) ?_;refine yn ?_ ?_;all_goals rfl
end
section
section
variable{α:Type}
def zeH{q:Int}:∀(l:List (Int×α))(i:Nat),mix q l i=(mix q l 0).map (λp=>(p.1+i,p.2))
 |[],i=>rfl
 |p::l,i=>by
  unfold mix;by_cases h:p.1=q
  ·simp[h]
  ·rw[j8 h,j8 h,zeH l (i+1),zeH l 1,kV];congr 1;funext x;simp;omega
def zqP(q:Int):mget q ([]:List (Int×α))=none:=rfl
def zdg(q:Int)(p:Int×α)(l:List (Int×α)):mget q (p::l)=if p.1=q then some p.2 else mget q l:=by
 have e:mix q (p::l) 0=if p.1=q then some (0,p.2)else mix q l 1:=rfl
 unfold mget;rw[e];by_cases h:p.1=q
 ·simp[h]
 ·rw[j8 h,j8 h,zeH l 1,kV];rfl
def zqQ(q:Int)(x:α):mput q x []=[(q,x)]:=rfl
def zp6(q:Int)(x:α)(p:Int×α)(l:List (Int×α)):mput q x (p::l)=if p.1=q then(q,x)::l else p::mput q x l:=by
 unfold mput;by_cases h:p.1=q
 ·simp[mix,h]
 ·have e:mix q (p::l) 0=(mix q l 0).map (λz=>(z.1+1,z.2)):=by
   rw[show mix q (p::l) 0=mix q l 1 by simp[mix,h],zeH l 1]
  rw[e,j8 h];cases mix q l 0 with
  |none=>rfl
  |some z=>rfl
theorem zeI(q q':Int)(x:α):∀l:List (Int×α),mget q (mput q' x l)=if q'=q then some x else mget q l
 |[]=>by rw[zqQ,zdg]
 |p::l=>by
  rw[zp6];by_cases h:p.1=q'
  ·rw[j7 h,zdg,zdg];by_cases Q:q'=q
   ·simp[Q]
   ·rw[j8 Q,j8 Q,j8 (by rw[h];exact Q)]
  ·rw[j8 h,zdg,zdg,zeI q q' x l];by_cases Q:p.1=q
   ·rw[j7 Q,j7 Q,j8 aa]
   ·rw[j8 Q,j8 Q]
end
end
section
variable{k:Nat}{l:List Sg}{m:Mn}{s:Sg}{α:Type}
def ztQ{l:List α}{x d:α}(h:l[k]? =some x):l.getD k d=x:=by
 simp_all
def dvK(m:Mn)(l:List Sg):Nat->List Tm
 |0=>[]
 |k+1=>match l[k]? with
  |some s=>if s.Kind=3 then dvK m l k else dvK m l k++[zbN m s.Value]
  |none=>dvK m l k
def zot(hs:l[k]? =some s)(h:s.Kind=3):dvK m l k=dvK m l (k+1):=by
 simp_all[dvK]
def zqR(hs:l[k]? =some s)(h:¬s.Kind=3):dvK m l k++[zbN m s.Value]=dvK m l (k+1):=by
 simp_all[dvK]
def zou(m:Mn)(l:List Sg):∀k,(dvK m l k).length<=k
 |0=>jG _
 |k+1=>by
  have:=zou m l k
  grind[dvK]
def duV(m:Mn)(l:List Sg):List Tm:=if ckD m l=0 then dvK m l l.length else[]
def ziA(h:ckD m l=0)(hs:l[k]? =some s)(Q:¬s.Kind=3):ckM m=0/\1<=s.Value/\s.Value<=8:=by
 have hm:ckM m=0:=by
  unfold ckD at h;split at h
  ·assumption
  ·exact absurd h ai
 have hf:zas m l 0 l=0:=by unfold ckD at h;rw[j7 hm]at h;exact h
 have hk:k<l.length:=(j5.1 hs).1;have N:=(zbi hf (k+1) aa).2 k s aa hs;simp_all[sgF];omega
end
section
def zyS:mpOk prog 183 3 35:=⟨ae,_,Tryz.underlying3⟩
def ztR:∃d,prog.underlying 3=some (.int d)/\d=.i64:=⟨_,Tryz.underlying3,rfl⟩
attribute [local irreducible] ckD dvK mget mput duV zbN clr
def zk9(m:Mn)(l:List Sg)(hl:l.length<=1000)(hn:NC l):Fn prog 155 [mnA m,sgsA l,yj []] (.tup [tmsA (duV m l),iv (ckD m l)]):=by
 refine bB func155 ntmps155 (λg w d=>?_);refine gq ?_;refine y0 [(39,39)] (zc5 m l hl hn) ?_;refine gd ?_ ?_<;>intro Q
 ·have E:[]=duV m l:=by unfold duV;rw[j8 Q]
  apply yc;refine yo ?_;refine bC ?_;refine yi (yh (ts:=[(6,tmsA []),(7,iv (ckD m l))]) (hs:=[])) ?_;refine yn ?_ ?_;all_goals(first|exact jA tmsA E|rfl|exact jA (AV.int .i64) Q.symm)
 apply yf;iterate 2 apply ye
 refine yl (kY (k:=39) rfl) ?_;refine gd ?_ ?_<;>intro xT
 ·exact absurd rfl xT
 refine gq ?_;refine bP (zaH (k:=32) (λi:Int=>iv i) tmA) rfl rfl ?_;refine yk ?_;apply ye;apply yc;refine yo ?_;apply kX;refine y9 [1,3,10,34] (λk zz=>(35,iv (k:Int))::zz) [3,32] (λk zz=>zz) 0 (λk hk=>?_);refine gd ?_ ?_<;>intro x2
 ·exact absurd x2 (kQ.2 (Int.natCast_nonneg k))
 ·have E:dvK m l l.length=duV m l:=by unfold duV;rw[j7 Q]
  have v8:[]=dvK m l 0:=by unfold dvK;rfl
  apply bH;apply yc;refine yk ?_;iterate 2 apply ye
  refine yl (yz tmE 35 2 13 13 rfl rfl) ?_;apply yd;refine yo ?_;apply kX;refine y9 [3,10,13,56,57] (λk zz=>(58,iv (k:Int))::zz) [3,32] (λk zz=>(13,.row tmE (dvK m l k) 35 2)::zz) l.length (λk hk=>?_);refine gd ?_ ?_<;>intro v5
  ·have x1:=@getX _ l k aa;obtain⟨s,hs,v4⟩:=x1;have v9:=zou m l k;apply yf;apply ye;apply kX;apply yc;(iterate 3 refine ya ?_);refine yP ?_;refine ya ?_;refine bF ?_;apply yp;(iterate 2 refine ya ?_);refine ya (hs:=zng (venc:=tmA) tmZ rfl rfl rfl zyS ztR (λ_ _=>rfl) (znh ze35)) ?_;refine gd ?_ ?_<;>intro K
   ·have H:=zot (m:=m) hs K;refine gq ?_;refine yr (k+1)
   have N:=ziA Q hs K;have H:=zqR (m:=m) hs K;refine gd ?_ ?_<;>intro x0
   ·exact absurd x0 (by rw[zqP];decide)
   ·refine gc (zb7 _) ?_;refine gd ?_ ?_<;>intro w2
    ·exact absurd w2 (by rw[hn s (j6 hs)];decide)
    ·refine gc (zgy N.1 N.2.1 N.2.2) ?_;refine yH tmE [⟨_,_⟩] ?_;refine gq ?_;refine yr (k+1)
  ·have G:k=l.length:=aa
   subst G;apply bH;apply yc;refine yo ?_;refine bC ?_;refine yi (kY (k:=13) rfl) ?_;refine yn ?_ ?_;all_goals(first|exact jA tmsA E|rfl|exact jA (AV.int .i64) Q.symm)
end
section
variable{ch:List Int}{k:Nat}{l:List Sg}{m:Mn}{s:Sg}{v:Int}
structure Ite where
 Sign:Int
 Value:Int
 Rest:Bool
 Color:Bool
 Fixed:Bool
 Cut:Int
 Dur:Tm
 Before:Tm
 After:Tm
 deriving DecidableEq
instance:Inhabited Ite:=⟨⟨0,0,false,false,false,0,⟨0,0⟩,⟨0,0⟩,⟨0,0⟩⟩⟩
def itE:Ite->List AV:=λx=>[.int .i64 x.Sign,.int .i64 x.Value,.bool x.Rest,.bool x.Color,.bool x.Fixed,.int .i64 x.Cut,.int .i64 x.Dur.N,.int .i64 x.Dur.D,.int .i64 x.Before.N,.int .i64 x.Before.D,.int .i64 x.After.N,.int .i64 x.After.D]
abbrev itA(x:Ite):AV:=.agg (itE x)
abbrev itsA(l:List Ite):AV:=.sl itE l
instance:EncK itE 12:=⟨λ_=>rfl⟩
def ntN(l:List Sg):Nat->Nat
 |0=>0
 |k+1=>match l[k]? with
  |some s=>if s.Kind=3 then ntN l k else ntN l k+1
  |none=>ntN l k
def zov(hs:l[k]? =some s)(h:s.Kind=3):ntN l (k+1)=ntN l k:=by
 simp_all[ntN]
theorem znv(hs:l[k]? =some s)(h:¬s.Kind=3):ntN l (k+1)=ntN l k+1:=by
 simp_all[ntN]
theorem zml(l:List Sg)(k:Nat):ntN l k<=ntN l (k+1)/\ntN l (k+1)<=ntN l k+1:=by
 grind[ntN]
def ziB(l:List Sg):∀(n k:Nat),k<=n->ntN l k<=ntN l n
 |0,k,h=>by simp_all
 |n+1,k,h=>by
  rcases wH n k with h1|h1
  ·grind
  ·have:=ziB l n k h1
   grind[zml]
theorem zfv(l:List Sg):∀k,ntN l k<=k
 |0=>jG _
 |k+1=>by have:=zfv l k;grind[zml]
theorem znw(ch:List Int)(l:List Sg):∀k,(mkK ch l k).1.length=ntN l k
 |0=>rfl
 |k+1=>by
  have h:=znw ch l k
  grind[mkK,ntN]
theorem zqS(m:Mn)(l:List Sg):∀k,(dvK m l k).length=ntN l k
 |0=>rfl
 |k+1=>by
  have h:=zqS m l k
  grind[dvK,ntN]
def zow{m:Mn}{l:List Sg}{k:Nat}{s:Sg}(hs:l[k]? =some s)(h:¬s.Kind=3):∀n,k<n->(dvK m l n)[ntN l k]? =some (zbN m s.Value)
 |0,hn=>by omega
 |n+1,hn=>by
  rcases wH k n with h1|h1
  ·have ih:=zow (m:=m) hs h n h1;have Q:ntN l k<(dvK m l n).length:=(j5.1 ih).1;cases N:l[n]? with
   |none=>simp only[dvK,N];exact ih
   |some z=>
    by_cases K:z.Kind=3
    ·rw[←zot N K];exact ih
    ·rw[←zqR N K,u5 Q];exact ih
  grind[zqS,dvK]
def itOf(k:Nat)(s:Sg)(c:Int)(a:Bool)(d:Tm):Ite:=
 ⟨k,s.Value,decide (s.Kind=2),clr s,a||decide (s.Kind=2)||clr s||decide (c=s.Value),c,if a=true then mulV d ⟨3,2⟩else d,⟨0,1⟩,⟨0,1⟩⟩
def itK(l:List Sg)(c:List Int)(a:List Bool)(d:List Tm):Nat->List Ite
 |0=>[]
 |k+1=>match l[k]? with
  |some s=>if s.Kind=3 then itK l c a d k else itK l c a d k++[itOf k s (c.getD (ntN l k) 0) (a.getD (ntN l k) false) (d.getD (ntN l k) ⟨0,0⟩)]
  |none=>itK l c a d k
section
variable{l:List Sg}{c:List Int}{a:List Bool}{d:List Tm}{k:Nat}{s:Sg}
variable{x:Int}{y:Bool}{z:Tm}
def zox(hs:l[k]? =some s)(h:s.Kind=3):itK l c a d k=itK l c a d (k+1):=by
 simp_all[itK]
def zyT(hs:l[k]? =some s)(h:¬s.Kind=3)(hx:c[ntN l k]? =some x)(Q:a[ntN l k]? =some y)(N:d[ntN l k]? =some z):itK l c a d k++[itOf k s x y z]=itK l c a d (k+1):=by
 simp_all[itK]
end
def zBr(l:List Sg)(c:List Int)(a:List Bool)(d:List Tm):[]=itK l c a d 0:=rfl
def ziC(l:List Sg)(c:List Int)(a:List Bool)(d:List Tm):∀k,(itK l c a d k).length=ntN l k
 |0=>rfl
 |k+1=>by
  have h:=ziC l c a d k
  grind[itK,ntN]
def zwS(m:Mn)(v:Int):Bool:=decide (mulE (zbN m v) ⟨3,2⟩=0)
theorem zp7:zsl zwS=true:=ae
def zyU(hm:ckM m=0)(h1:1<=v)(Q:v<=8):mulE (zbN m v) ⟨3,2⟩=0:=by
 grind[zqi,zp7,zwS]
def itmV(m:Mn)(l:List Sg)(ch:List Int):List Ite:=if mkE m l ch=0 then itK l (mkC m l ch) (mkA m l ch) (duV m l) l.length else[]
theorem zqT(h:¬ckD m l=0):mkE m l ch=ckD m l:=by unfold mkE;rw[j8 h]
def znx(h:mkE m l ch=0):ckD m l=0:=by
 grind[zqT]
def zqU(h:¬mkE m l ch=0):itmV m l ch=[]:=by unfold itmV;rw[j8 h]
def zny(h:mkE m l ch=0):itmV m l ch=itK l (mkC m l ch) (mkA m l ch) (duV m l) l.length:=by unfold itmV;rw[j7 h]
def zwT(h1:mkE m l ch=0)(hs:l[k]? =some s)(h:¬s.Kind=3):
 ∃x y z,(mkC m l ch)[ntN l k]? =some x/\(mkA m l ch)[ntN l k]? =some y/\(duV m l)[ntN l k]? =some z/\mulE z ⟨3,2⟩=0/\ntN l k<ntN l l.length/\ckM m=0/\1<=s.Value/\s.Value<=8/\z=zbN m s.Value:=by
 have hk:k<l.length:=(j5.1 hs).1
 have Q:ntN l k<ntN l l.length:=by
  have:=ziB l l.length (k+1) hk
  grind[znv]
 obtain⟨hm,v1,v8⟩:=ziA (znx h1) hs h;have c1:(mkC m l ch).length=ntN l l.length:=by simp_all[mkC,znw]
 have c2:(mkA m l ch).length=ntN l l.length:=by grind[mkA,zlR,znw]
 refine⟨_,_,_,lgg aa,lgg aa,?_,zyU hm v1 v8,Q,hm,v1,v8,rfl⟩;unfold duV;rw[j7 (znx h1)];exact zow hs h _ hk
section
variable{k:Nat}{s:Sg}{x:Int}{y:Bool}{z:Tm}
def itL(k:Nat)(s:Sg)(f:Bool)(x:Int)(z:Tm):Ite:=⟨k,s.Value,decide (s.Kind=2),decide (s.Kind=1)&&s.Color,f,x,z,⟨0,1⟩,⟨0,1⟩⟩
def zBs(Q:y=true):itL k s true x (mulV z ⟨3,2⟩)=itOf k s x y z:=by subst Q;rfl
def zwU(Q:y=false)(h:s.Kind=2\/x=s.Value):itL k s true x z=itOf k s x y z:=by
 grind[clr,itOf,itL]
def zBt(Q:y=false)(h1:¬s.Kind=2)(N:clr s=false)(K:¬x=s.Value):itL k s false x z=itOf k s x y z:=by
 simp_all[clr,itOf,itL]
end
end
section
variable{j k:Nat}{l:List Tm}{t v:Tm}{α:Type}{x:α}
def tfx(t:Tm)(l:List Tm):Int:=if l.findIdx (λu=>decide (t=u))<l.length then(l.findIdx (λu=>decide (t=u)):Int)else-1
def ztS(Q:l[k]? =some v)(N:t=v)(hJ:∀i u,i<k->l[i]? =some u->¬t=u):tfx t l=k:=by
 have hk:k<l.length:=(j5.1 Q).1;have K:l[k]=v:=(j5.1 Q).2;have:l.findIdx (λu=>decide (t=u))=k:=(List.findIdx_eq hk).2 ⟨by rw[K];simpa using N,λj H=>by simpa using hJ j _ H (lgg aa)⟩;unfold tfx;rw[this,j7 hk]
def zqV(hJ:∀i u,i<l.length->l[i]? =some u->¬t=u):tfx t l=-1:=by
 have:l.findIdx (λu=>decide (t=u))=l.length:=vL.2 λx hx=>by
  obtain⟨i,hi⟩:=jL.1 hx;simpa using hJ i x (j5.1 hi).1 hi
 unfold tfx;rw[j8 aa]
def ztT(t:Tm)(l:List Tm):decide (0<=tfx t l)=decide (t∈l):=by
 by_cases h:t∈l
 ·have:l.findIdx (λu=>decide (t=u))<l.length:=List.findIdx_lt_length_of_exists ⟨t,h,ah⟩;simp only[tfx,j7 this,h];simp
 ·have N:l.findIdx (λu=>decide (t=u))=l.length:=vL.2 λu Q=>wB λe=>h (e▸Q)
  have:¬l.findIdx (λu=>decide (t=u))<l.length:=aa
  simp only[tfx,j8 this,h];simp
def znz{l:List α}(h:l[j]? =some x):l.take j++[x]=l.take (j+1):=by
 rw[jK,h];rfl
def zke(m:Mn):(perfL m).length<=4:=by
 unfold perfL;refine jV (uA _ _) ?_;simp
attribute [local irreducible] tfx perfL
def zbw(l:List Tm)(t:Tm)(hl:l.length<=4000000000):Fn prog 370 [tmsA l,tmA t] (iv (tfx t l)):=by
 refine bB func370 ntmps370 (λg w d=>?_);apply yc;refine zl ?_;refine yk ?_;apply ye;apply yc;refine yo ?_;apply kX;refine zag (ι:=Nat) [0,3,7] (λ(k:Nat)zz=>(8,iv (k:Int))::zz) [3] (λ(k:Nat)zz=>zz) (λ(k:Nat)=>k<=l.length/\∀i u,i<k->l[i]? =some u->¬t=u) (λ(k:Nat)=>l.length-k) 0 (λk hk=>?_) (hJ:=by exact⟨aa,λi u h=>absurd h (vU i)⟩);obtain⟨E,Q⟩:=hk;refine gd ?_ ?_<;>intro xT
 ·have H:=@getX _ l k aa;obtain⟨v,G,x2⟩:=H;refine gq ?_;refine y4 [11,12,13,14,15,16] [0,0,0,6,14,31] mo ?_;iterate 6 refine yb ?_
  refine yD ?_;refine gd ?_ ?_<;>intro N
  ·refine gq ?_;all_goals(congr 1;exact(ztS G N Q).symm)
  refine gq ?_
  refine yr (k+1) (hJ:=by
   refine⟨aa,λi u hi K=>?_⟩;rcases uJ.1 hi with h|h
   ·exact Q i u h K
   ·subst h;rw[G]at K;injection K with K;subst K;exact N)
 ·refine gq ?_;all_goals(congr 1;exact(zqV (λi u hi=>Q i u aa)).symm)
def zZ(l:List Tm)(t:Tm)(hl:l.length<=4000000000):Fn prog 365 [tmsA l,tmA t] (.bool (decide (t∈l))):=by
 refine bB func365 ntmps365 (λg w d=>?_);refine gc (zbw l t hl) ?_;all_goals(congr 1;exact ztT t l)
def zai(l:List Ite)(hl:l.length<=4000000):FnO prog 159 [itsA l] [] [] (.own 5) [(5,.row itE l 241 12)]:=by
 refine bR [] func159 ntmps159 (λg w d vs=>?_);apply yc;refine yk ?_;apply ye;apply yc;refine ya ?_;refine Ex.eqNil rfl zkT rfl (λb K=>?_);refine gd ?_ ?_<;>intro Q
 ·have N:=K Q;subst N;subst Q;apply yc;refine yk ?_;refine bC ?_;refine zI (yz itE 241 12 2 5 rfl rfl) ?_;refine zm4.mk (ts:=[(2,.own 5)]) (.inr rfl) (yh) (.one (.tmp rfl (kZ rfl)))
 refine gq ?_;refine yH itE [] ?_;refine ya ?_;refine bF ?_;refine yk ?_;refine bC ?_;refine zm4.mk (ts:=[(2,.own 5)]) (.inr rfl) (yh) (.one (.tmp rfl (kZ rfl)))
def zcs(m:Mn):Fn prog 232 [.nils,.fn 233 [.ept (λ_:Unit=>mnE m) () 0]] (yj (perfL m)):=by
 have H:=zke m;refine bB func232 ntmps232 (λg w d=>?_);apply yc;refine zax ?_;refine yk ?_;iterate 2 apply ye
 refine yl (zK intE 3 1 2 39 22 rfl rfl) ?_;apply yd;refine yk ?_;apply kX;have G:[]=(perfL m).take 0:=ah
 have N:(perfL m).take (zfk m).length=perfL m:=by unfold zfk;rw[jD,jR]
 refine bV (sl:=[2]) (λj=>([.ptr 2 0 0 0],[(2,.box [.own 39] 22),(39,.row intE ((perfL m).take j) 3 1)])) (λj=>True) 900001 900002 rfl rfl ac (λj zs Q=>by obtain⟨i,_,rfl⟩:=zcl Q;rfl) (zdl m) trivial rfl rfl ac (jU _) ah (λj zs Q=>by obtain⟨i,_,rfl⟩:=zcl Q;rfl) (λ_=>rfl) rfl rfl (λl o us=>yh) (trivial) (λj zs Q hJ l ready busy rb vs g w hb E=>?_) (λhJ=>?_)
 ·have K:=zcl Q;obtain⟨i,hi,rfl⟩:=K;have xT:=znz hi;have x2:((perfL m).take j).length<=1000:=aj
  apply yd;refine yk ?_;refine⟨rfl,rfl,?_⟩;refine gq ?_;refine yH intE [_] ?_;iterate 2 refine bF ?_
  apply bD;refine⟨[.ptr 2 0 0 0],[(2,.box [.own 39] 22),(39,.row intE ((perfL m).take (j+1)) 3 1)],yh,rfl,trivial⟩
 apply yc;refine yC ?_;refine bC ?_;refine yi (kY (k:=39) rfl) ?_;refine gq ?_;all_goals(first|exact jA yj N|rfl)
def zea(m:Mn):Fn prog 198 [.fn 233 [.ept (λ_:Unit=>mnE m) () 0]] (yj (perfL m)):=by
 refine bB func198 ntmps198 (λg w d=>?_);refine gc (zcs m) ?_;all_goals exact zR
def zc6(m:Mn):Fn prog 156 [mnA m] (.tup [yj (if ckM m=0 then perfL m else[]),iv (ckM m)]):=by
 refine bB func156 ntmps156 (λg w d=>?_);refine gc (zce m) ?_;refine gd ?_ ?_<;>intro Q
 ·apply yc;refine yo ?_;refine bC ?_;refine yi (yh (ts:=[(2,yj []),(3,iv (ckM m))]) (hs:=[])) ?_;refine yn ?_ ?_;all_goals(first|(rw[j8 Q];done)|rfl)
 refine gq ?_;refine zf (zel m) ?_;refine gc (zea m) ?_;refine yn ?_ ?_;all_goals(first|(rw[j7 Q];done)|exact jA (AV.int .i64) Q.symm)
end
section
attribute [local irreducible] gI
end
section
variable{k:Nat}{m:Mn}{n:Nat}{u:Tm}
structure Sgm where
 From:Int
 To:Int
 Left:Int
 Right:Int
 Free:Bool
 Count:Tm
 deriving DecidableEq
instance:Inhabited Sgm:=⟨⟨0,0,0,0,false,⟨0,0⟩⟩⟩
def smE:Sgm->List AV:=λx=>[.int .i64 x.From,.int .i64 x.To,.int .i64 x.Left,.int .i64 x.Right,.bool x.Free,.int .i64 x.Count.N,.int .i64 x.Count.D]
abbrev smA(x:Sgm):AV:=.agg (smE x)
abbrev smsA(l:List Sgm):AV:=.sl smE l
abbrev itT(x:Ite):List Tm:=[x.Dur,x.Before,x.After]
abbrev itKd(x:Ite):Prop:=(x.Rest=true/\x.Color=true)\/((x.Rest=true\/x.Color=true)/\x.Fixed=false)
abbrev itRg(x:Ite):Prop:=x.Value<1\/8<x.Value\/x.Cut<0\/8<x.Cut
def itF(x:Ite):Int:=if itRg x then 2 else if y5 (itT x)=0 then(if itKd x then 8 else 0)else y5 (itT x)
def ckIE:List Ite->Int
 |[]=>0
 |x::r=>if itF x=0 then ckIE r else itF x
def ckIX:List Ite->Int->Int
 |[],_=>0
 |x::r,k=>if itF x=0 then ckIX r (k+1)else k
def zeJ{l:List Ite}{x:Ite}(h:l[k]? =some x):ckIE (l.drop k)=if itF x=0 then ckIE (l.drop (k+1))else itF x:=by
 grind[List.drop_eq_getElem_cons,ckIE]
def zeK{l:List Ite}{x:Ite}(n:Int)(h:l[k]? =some x):ckIX (l.drop k) n=if itF x=0 then ckIX (l.drop (k+1)) (n+1)else n:=by
 grind[List.drop_eq_getElem_cons,ckIX]
def zmm:∀{l:List Ite},ckIE l=0->∀x∈l,itF x=0
 |[],_,x,hx=>by simp at hx
 |s::r,h,x,hx=>by
  simp only[ckIE]at h;by_cases hs:itF s=0
  ·rw[j7 hs]at h;rcases jW.1 hx with rfl|hx
   ·exact hs
   ·exact zmm h x hx
  omega
def zyV{x:Ite}(h:itF x=0):(1<=x.Value/\x.Value<=8/\0<=x.Cut/\x.Cut<=8)/\ckT x.Dur=0/\ckT x.Before=0/\ckT x.After=0/\¬itKd x:=by
 unfold itF at h;split at h;all_goals grind[zkl]
def unE(m:Mn)(k:Int):Int:=if ckM m=0 then(if 1<=k/\k<=4/\m.p k=3 then 0 else 2)else ckM m
def unT(m:Mn)(k:Int):Tm:=if unE m k=0 then zbN m (k+1)else tmZ
def ziD{k:Int}(h:unE m k=0):ckM m=0/\1<=k/\k<=4/\m.p k=3:=by
 grind[unE]
structure Bd where
 item:Int
 next:Int
 fin:Bool
 deriving DecidableEq
instance:Inhabited Bd:=⟨⟨0,0,false⟩⟩
def bdE:Bd->List AV:=λx=>[.int .i64 x.item,.int .i64 x.next,.bool x.fin]
abbrev bdA(x:Bd):AV:=.agg (bdE x)
abbrev isH(k:Int)(x:Ite):Prop:=x.Color=false/\x.Value<=k
abbrev isC(k:Int)(x:Ite):Prop:=0<x.Cut/\x.Cut<=k
def bdK(k:Int)(l:List Ite):Nat->List Bd
 |0=>[⟨-1,0,false⟩]
 |n+1=>match l[n]? with
  |some x=>(bdK k l n++if isH k x then[⟨n,n+1,false⟩]else[])++if isC k x then[⟨-1,n+1,false⟩]else[]
  |none=>bdK k l n
def bds(k:Int)(l:List Ite):List Bd:=bdK k l l.length++[⟨-1,l.length,true⟩]
def zdh{k:Int}{l:List Ite}{x:Ite}(h:l[n]? =some x):bdK k l (n+1)=(bdK k l n++if isH k x then[⟨n,n+1,false⟩]else[])++if isC k x then[⟨-1,n+1,false⟩]else[]:=by
 simp_all[bdK]
def zia(k:Int)(l:List Ite):∀n,1<=(bdK k l n).length/\(bdK k l n).length<=2*n+1
 |0=>by simp[bdK]
 |n+1=>by
  have h:=zia k l n
  grind[bdK]
def hdI(l:List Ite)(b:Bd):Int:=if b.item<0\/(l.getD b.item.toNat default).Fixed=true then-1 else b.item
abbrev bdF(b:Bd):Int:=if 0<=b.item then b.item else b.next
def sg0(l:List Ite)(b c:Bd):Sgm:=⟨b.next,bdF c,hdI l b,hdI l c,c.fin,⟨0,0⟩⟩
def sgs0(l:List Ite):List Bd->List Sgm
 |b::c::r=>sg0 l b c::sgs0 l (c::r)
 |_=>[]
def zeb(l:List Ite):∀B:List Bd,(sgs0 l B).length=B.length-1
 |[]=>rfl
 |[_]=>rfl
 |b::c::r=>by
  have:=zeb l (c::r);simp_all[sgs0]
theorem zmn(l:List Ite):∀(B:List Bd)(i:Nat)(b c:Bd),B[i]? =some b->B[i+1]? =some c->(sgs0 l B)[i]? =some (sg0 l b c)
 |[],i,b,c,h,_=>by simp at h
 |[_],i,b,c,_,h=>by simp at h
 |x::y::r,0,b,c,h,Q=>by
  grind[sgs0]
 |x::y::r,i+1,b,c,h,Q=>by
  have:=zmn l (y::r) i b c (ao h) (ao Q);simpa[sgs0]using this
def zkf(l:List Ite):∀(B:List Bd)(b c:Bd),sgs0 l ((B++[b])++[c])=sgs0 l (B++[b])++[sg0 l b c]
 |[],b,c=>rfl
 |[x],b,c=>rfl
 |x::y::r,b,c=>by
  have:=zkf l (y::r) b c;simp_all[sgs0]
def itR(l:List Ite)(s:Sgm):List Ite:=(l.drop s.From.toNat).take (s.To.toNat-s.From.toNat)
def drL(l:List Ite):List Tm:=l.map (·.Dur)
def lsE(a b:Tm):Int:=if subE a b=2 then 14 else subE a b
def cn1(t:Tm)(h:Int)(d:Tm):Tm×Int:=if h<0 then(t,0)else if lsE t d=0 then(subV t d,0)else(tmZ,lsE t d)
def cnA(l:List Ite)(s:Sgm):Tm×Int:=sumF ⟨0,1⟩ (drL (itR l s))
def cnB(l:List Ite)(s:Sgm):Tm×Int:=if(cnA l s).2=0 then cn1 (cnA l s).1 s.Left (l.getD s.Left.toNat default).After else(tmZ,(cnA l s).2)
def cnC(l:List Ite)(s:Sgm):Tm×Int:=if(cnB l s).2=0 then cn1 (cnB l s).1 s.Right (l.getD s.Right.toNat default).Before else(tmZ,(cnB l s).2)
def divE(a b:Tm):Int:=if y5 [a,b]=0 then(if b.N=0 then 5 else tmsE a.N a.D b.D b.N)else y5 [a,b]
def divV(a b:Tm):Tm:=if y5 [a,b]=0 then(if b.N=0 then tmZ else tmsV a.N a.D b.D b.N)else tmZ
def cnE(u:Tm)(l:List Ite)(s:Sgm):Int:=if(cnC l s).2=0 then divE (cnC l s).1 u else(cnC l s).2
def cnV(u:Tm)(l:List Ite)(s:Sgm):Tm:=if(cnC l s).2=0 then divV (cnC l s).1 u else tmZ
def segW(u:Tm)(l:List Ite)(s:Sgm):Sgm:={s with Count:=cnV u l s}
def segR(u:Tm)(l:List Ite)(s:Sgm):Int:=if cnE u l s=0 then(if s.Free=false/\¬(cnV u l s).D=1 then 14 else 0)else cnE u l s
def segX(u:Tm)(l:List Ite):List Sgm->Int
 |[]=>0
 |s::r=>if segR u l s=0 then segX u l r else segR u l s
theorem ziE{l:List Ite}{L:List Sgm}{s:Sgm}(h:L[k]? =some s):segX u l (L.drop k)=if segR u l s=0 then segX u l (L.drop (k+1))else segR u l s:=by
 grind[List.drop_eq_getElem_cons,segX]
def segE(m:Mn)(k:Int)(l:List Ite):Int:=if unE m k=0 then(if ckIE l=0 then segX (unT m k) l (sgs0 l (bds k l))else ckIE l)else unE m k
def segV(m:Mn)(k:Int)(l:List Ite):List Sgm:=if segE m k l=0 then(sgs0 l (bds k l)).map (segW (unT m k) l)else[]
def smF:Tm->List Tm->List Tm
 |_,[]=>[]
 |t,d::r=>addV t d::smF (addV t d) r
def fsL(l:List Ite):List Tm:=smF ⟨0,1⟩ (drL l)
def lasL(l:List Ite):List Tm:=match(fsL l).getLast? with
 |none=>[]
 |some a=>a::(((fsL l).dropLast.filter λt=>decide (subE a t=0)).map λt=>subV a t)
def rcQ(u:Tm)(sums:List Tm)(lost:Tm):Bool:=decide (addE lost u=0)&&decide (addV lost u∈sums)
def lgQ(u:Tm)(x:Ite):Bool:=decide (0<cmpV x.Dur u)
abbrev itg(l:List Ite)(i:Int):Ite:=l.getD i.toNat default
def poQ(u:Tm)(k:Int)(l:List Ite)(L:List (Int×Bool))(s:Sgm):Bool:=
 !decide (s.Left<0)&&((decide ((itg l s.Left).Value<k)||!(mget s.Left L).getD false)&&lgQ u (itg l s.Left)&&rcQ u (fsL (itR l s)) (itg l s.Left).After)
def blQ(k:Int)(l:List Ite)(h:Int):Bool:=
 decide ((itg l h).Value=k)&&decide (h+1<l.length)&&!decide (0<(itg l h).Cut)&&(!(itg l (h+1)).Color&&decide ((itg l (h+1)).Value=k))
def anQ(u:Tm)(k:Int)(l:List Ite)(s:Sgm):Bool:=
 !decide (s.Right<0)&&(!blQ k l s.Right&&(lgQ u (itg l s.Right)&&rcQ u (lasL (itR l s)) (itg l s.Right).Before))
def ntQ(u:Tm)(k:Int)(x:Ite):Bool:=!x.Rest&&!x.Color&&!x.Fixed&&decide (x.Value=k+1)&&decide (x.Dur=u)
def atQ(u:Tm)(k:Int)(l:List Ite)(s:Sgm):Bool:=
 !(decide (s.From=s.To)||s.Free)&&(ntQ u k (itg l (s.To-1))&&(decide (s.Right<0)||decide ((itg l s.Right).Before.N=0)))
def alR(p a t:Bool)(s:Sgm):List Int:=
 (if s.Count.N%3=0\/s.Free=true then[0]else[])++(if s.Count.N%3=1/\s.Count.D=1/\p=true then[1]else[])++(if s.Count.N%3=1/\s.Free=false/\a=true then[2]else[])++
 (if s.Count.N%3=2/\s.Free=false/\p=true/\a=true then[3]else[])++(if s.Count.N%3=2/\s.Free=false/\t=true then[4]else[])
def alQ(u:Tm)(k:Int)(l:List Ite)(L:List (Int×Bool))(s:Sgm):List Int:=alR (poQ u k l L s) (anQ u k l s) (atQ u k l s) s
def zbn(u:Tm)(x:Ite):Ite:={x with Dur:=subV x.Dur u,After:=addV x.After u}
def zbx(u:Tm)(x:Ite):Ite:={x with Dur:=subV x.Dur u,Before:=addV x.Before u}
def dblI(x:Ite):Ite:={x with Dur:=addV x.Dur x.Dur}
def upI(l:List Ite)(i:Int)(f:Ite->Ite):List Ite:=l.set i.toNat (f (itg l i))
def chN(u:Tm)(s:Sgm)(c:Int)(l:List Ite):List Ite:=
 let l1:=if c=1\/c=3 then upI l s.Left (zbn u)else l
 let l2:=if c=2\/c=3 then upI l1 s.Right (zbx u)else l1
 if c=4 then upI l2 (s.To-1) dblI else l2
def chL(s:Sgm)(c:Int)(L:List (Int×Bool)):List (Int×Bool):=if c=2\/c=3 then mput s.Right true L else L
theorem zeL(l:List Ite)(i:Int)(f:Ite->Ite):(upI l i f).length=l.length:=by unfold upI;simp
def zoy(u:Tm)(s:Sgm)(c:Int)(l:List Ite):(chN u s c l).length=l.length:=by
 grind[chN,zeL]
def stK(u:Tm)(S:List Sgm)(l:List Ite)(M:List Int):Nat->List Ite×List (Int×Bool)
 |0=>(l,[])
 |n+1=>(chN u (S.getD n default) (M.getD n 0) (stK u S l M n).1,chL (S.getD n default) (M.getD n 0) (stK u S l M n).2)
def alK(u:Tm)(k:Int)(S:List Sgm)(l:List Ite)(M:List Int)(n:Nat):List Int:=alQ u k (stK u S l M n).1 (stK u S l M n).2 (S.getD n default)
def okJ(u:Tm)(k:Int)(S:List Sgm)(l:List Ite)(M:List Int):Nat->Bool
 |0=>true
 |n+1=>okJ u k S l M n&&decide (M.getD n 0∈alK u k S l M n)
def zcP(u:Tm)(S:List Sgm)(l:List Ite)(M:List Int):∀n,(stK u S l M n).1.length=l.length
 |0=>rfl
 |n+1=>by show(chN _ _ _ _).length=_;rw[zoy,zcP u S l M n]
def zmo(u:Tm)(S:List Sgm)(l:List Ite)(M:List Int)(n:Nat):stK u S l M (n+1)=(chN u (S.getD n default) (M.getD n 0) (stK u S l M n).1,chL (S.getD n default) (M.getD n 0) (stK u S l M n).2):=rfl
def alE(m:Mn)(k:Int)(l:List Ite)(M:List Int):Int:=if segE m k l=0 then(if(segV m k l).length<=M.length\/okJ (unT m k) k (segV m k l) l M M.length=false then 2 else 0)else segE m k l
def alV(m:Mn)(k:Int)(l:List Ite)(M:List Int):List Int:=if alE m k l M=0 then alK (unT m k) k (segV m k l) l M M.length else[]
def apE(m:Mn)(k:Int)(l:List Ite)(M:List Int):Int:=if segE m k l=0 then(if¬(segV m k l).length=M.length\/okJ (unT m k) k (segV m k l) l M M.length=false then 2 else 0)else segE m k l
def apV(m:Mn)(k:Int)(l:List Ite)(M:List Int):List Ite:=if apE m k l M=0 then(stK (unT m k) (segV m k l) l M M.length).1 else[]
end
section
attribute [local irreducible] gI
def znA(a b:Tm):Fn prog 321 [tmA a,tmA b] (.tup [tmA (divV a b),iv (divE a b)]):=by
 refine bB func321 ntmps321 (λg w d=>?_);refine gq ?_;refine yH tmE [⟨_,_⟩,⟨_,_⟩] ?_;refine yY (kY (k:=9) rfl) ?_;refine gc (zaX [a,b] ah) ?_;refine gd ?_ ?_<;>intro Q
 ·have hE:divE a b=y5 [a,b]:=by unfold divE;rw[j8 Q]
  have H:divV a b=tmZ:=by unfold divV;rw[j8 Q]
  refine gq ?_;refine yR ty35 ?_ ?_;all_goals(first|exact zE hE|exact zE H)
 have G:=ziW Q;have b1:=zfj G.1;have b2:=zfj G.2;refine gd ?_ ?_<;>intro K
 ·have hE:divE a b=5:=by unfold divE;rw[j7 Q,j7 K]
  have H:divV a b=tmZ:=by unfold divV;rw[j7 Q,j7 K]
  refine gq ?_;refine yR ty35 ?_ ?_;all_goals(first|exact zE hE|exact zE H)
 have hE:divE a b=tmsE a.N a.D b.D b.N:=by unfold divE;rw[j7 Q,j8 K]
 have H:divV a b=tmsV a.N a.D b.D b.N:=by unfold divV;rw[j7 Q,j8 K]
 refine gc (zgc a.N a.D b.D b.N b1.1 b1.2.1 b1.2.2.2.2.1 aa aa aa aa aa) ?_;refine yR ty35 ?_ ?_;all_goals(first|exact zE hE|exact zE H)
end
section
variable{j:Nat}{t:Tm}
def zgW(m:Mn)(k:Int):k∈perfL m↔(1<=k/\k<=4/\m.p k=3):=by
 unfold perfL;simp only[wG,jW,List.not_mem_nil,or_false,w8];constructor
 ·rintro⟨h1,Q⟩;exact⟨aa,aa,Q⟩
 ·rintro⟨h1,Q,N⟩;exact⟨aa,N⟩
def zqW(x:Ite)(h:(itT x)[j]? =some t):(([iv x.Dur.N,iv x.Dur.D,iv x.Before.N,iv x.Before.D,iv x.After.N,iv x.After.D]:List AV).drop ((j:Int).toNat*2)).take 2=tmE t:=by
 have Q:j<3:=(j5.1 h).1;have:j=0\/j=1\/j=2:=aa
 rcases this with rfl|rfl|rfl<;>(injection h with h;subst h;rfl)
attribute [local irreducible] ckT y5 perfL
def zfb(l:List Ite)(hl:l.length<=4000000):Fn prog 157 [itsA l] (.tup [iv (ckIE l),iv (ckIX l 0)]):=by
 refine bB func157 ntmps157 (λg w d=>?_);apply yc;refine yC ?_;apply ye;apply yc;refine yo ?_;apply kX;refine zag (ι:=Nat) [9,10] (λ(k:Nat)zz=>(11,iv (k:Int))::zz) [] (λ(k:Nat)zz=>zz) (λ(k:Nat)=>k<=l.length/\ckIE l=ckIE (l.drop k)/\ckIX l 0=ckIX (l.drop k) (k:Int)) (λ(k:Nat)=>l.length-k) 0 (λk hk=>?_) (hJ:=by exact⟨aa,rfl,rfl⟩);obtain⟨x0,Q,N⟩:=hk;refine gd ?_ ?_<;>intro w2
 ·have x2:=@getX _ l k aa;obtain⟨x,hx,v9⟩:=x2;apply yf;apply ye;apply kX;apply yc;iterate 3 refine ya ?_
  refine yP ?_;refine ya ?_;refine bF ?_;apply bD;apply ye;apply yc;iterate 3 refine ya ?_
  refine bI 3 ?_;refine yw ?_;iterate 3 refine bE ?_
  iterate 2 refine yw ?_
  iterate 3 refine bE ?_
  iterate 2 refine yw ?_
  iterate 3 refine bE ?_
  refine gf ?_ ?_<;>intro v8
  ·have K:itF x=2:=by unfold itF;rw[j7 (by unfold itRg;omega)]
   have hE:ckIE l=2:=by rw[Q,zeJ hx,K,j8 ac]
   have hX:ckIX l 0=(k:Int):=by rw[N,zeK _ hx,K,j8 ac]
   refine gq ?_;refine yn ?_ ?_;all_goals(first|exact zE hE|exact zE hX)
  have hR:¬itRg x:=by unfold itRg;omega
  have hT:(itT x).length=3:=rfl;apply yf;apply ye;apply yc;iterate 7 refine ya ?_
  refine yk ?_;apply kX;refine zag (ι:=Nat) [9,10,11,4,5,41] (λ(j:Nat)zz=>(42,iv (j:Int))::zz) [5] (λ(j:Nat)zz=>zz) (λ(j:Nat)=>j<=3/\y5 (itT x)=y5 ((itT x).drop j)) (λ(j:Nat)=>3-j) 0 (λj hk=>?_) (hJ:=by exact⟨aa,rfl⟩);obtain⟨v5,G⟩:=hk;refine gd ?_ ?_<;>intro v4
  ·obtain⟨t,ht⟩:∃t,(itT x)[j]? =some t:=⟨_,lgg (show j<(itT x).length by simp;omega)⟩;have x1:=zqW x ht;have v3:(itT x)[(j:Int).toNat]? =some t:=ao ht
   apply yf;apply ye;apply kX;apply yc;refine ya (hs:=by exact zO ArK.h TyK.h rfl rfl aa aa x1) ?_;refine gc (zaz t) ?_;refine gd ?_ ?_<;>intro H
   ·have hf:y5 (itT x)=ckT t:=by rw[G,zcS ht,j8 H]
    have K:itF x=ckT t:=by unfold itF;rw[j8 hR,hf,j8 H]
    have hE:ckIE l=ckT t:=by rw[Q,zeJ hx,K,j8 H]
    have hX:ckIX l 0=(k:Int):=by rw[N,zeK _ hx,K,j8 H]
    refine gq ?_;refine yn ?_ ?_;all_goals(first|exact zE hE|exact zE hX)
   refine gq ?_;refine yr (j+1) (hJ:=by exact⟨aa,by rw[G,zcS ht,j7 H]⟩)
  ·have hf:y5 (itT x)=0:=by rw[G,wT aj];unfold y5;rfl
   apply bH;apply yc;(iterate 2 refine ya ?_);refine bI 2 ?_;refine yw ?_;(iterate 2 refine bE ?_);(iterate 2 refine yw ?_);(iterate 11 refine bE ?_);refine gf ?_ ?_<;>intro E
   ·have K:itF x=8:=by unfold itF;rw[j8 hR,j7 hf,j7 (by unfold itKd;revert E;cases x.Rest<;>cases x.Color<;>cases x.Fixed<;>simp)]
    have hE:ckIE l=8:=by rw[Q,zeJ hx,K,j8 ac]
    have hX:ckIX l 0=(k:Int):=by rw[N,zeK _ hx,K,j8 ac]
    refine gq ?_;refine yn ?_ ?_;all_goals(first|exact zE hE|exact zE hX)
   have K:itF x=0:=by unfold itF;rw[j8 hR,j7 hf,j8 (by unfold itKd;revert E;cases x.Rest<;>cases x.Color<;>cases x.Fixed<;>simp)]
   refine gq ?_;refine yr (k+1) (hJ:=by exact⟨aa,by rw[Q,zeJ hx,j7 K],by rw[N,zeK _ hx,j7 K];rfl⟩)
 ·have xT:k=l.length:=aa
  have hE:ckIE l=0:=by rw[Q,xT,uD];rfl
  have hX:ckIX l 0=0:=by rw[N,xT,uD];rfl
  refine gq ?_;refine yn ?_ ?_;all_goals(first|exact zE hE|exact zE hX)
def zfU(m:Mn)(k:Int)(h0:-9223372036854775808<=k)(h1:k<=9223372036854775807):Fn prog 264 [mnA m,iv k] (.tup [tmA (unT m k),iv (unE m k)]):=by
 refine bB func264 ntmps264 (λg w d=>?_);refine gc (zc6 m) ?_;refine gd ?_ ?_<;>intro H
 ·have K:unE m k=ckM m:=by unfold unE;rw[j8 H]
  have G:unT m k=tmZ:=by unfold unT;rw[j8 (by rw[K];exact H)]
  refine gq ?_;refine yR ty35 ?_ ?_;all_goals(first|exact zE K|exact zE G)
 have Q:ckM m=0:=H;refine gc (yQ (if ckM m=0 then perfL m else[]) k (by have:=zke m;split<;>simp<;>omega)) ?_;refine gd ?_ ?_<;>intro N
 ·rw[j7 Q]at N;have K:unE m k=2:=by unfold unE;rw[j7 Q,j8 (λh=>absurd ((zgW m k).2 h) (ao N))]
  have G:unT m k=tmZ:=by unfold unT;rw[j8 (by rw[K];decide)]
  refine gq ?_;refine yR ty35 ?_ ?_;all_goals(first|exact zE K|exact zE G)
 rw[j7 Q]at N;have hm:=(zgW m k).1 (ao N);have K:unE m k=0:=by unfold unE;rw[j7 Q,j7 hm]
 have G:unT m k=zbN m (k+1):=by unfold unT;rw[j7 K]
 refine gc (zgy (v:=k+1) Q aa aa) ?_;refine yR ty35 ?_ ?_;all_goals(first|exact zE K|exact zE G)
def zaK(l:List Ite)(b:Bd)(K:b.item<l.length):Fn prog 316 [.agg [itsA l],bdA b] (iv (hdI l b)):=by
 refine bB func316 ntmps316 (λg w d=>?_);apply yc;iterate 2 refine zl ?_
 refine yk ?_;apply ye;apply yc;iterate 3 refine ya ?_
 refine bI 3 ?_;refine yw ?_;iterate 7 refine bE ?_
 refine gf ?_ ?_<;>intro Q
 ·have N:hdI l b=-1:=by unfold hdI;rw[j7 Q]
  refine gq ?_;all_goals rw[N]
 have N:hdI l b=b.item:=by unfold hdI;rw[j8 (by rintro(h|h);omega;(rw[Q.2]at h;cases h))]
 refine gq ?_;all_goals rw[N]
end
section
variable{L:List (Int×Bool)}{m:Mn}{u:Tm}
structure BdOk(k:Int)(l:List Ite)(n:Nat)(b:Bd):Prop where
 it:b.item=-1\/(0<=b.item/\b.next=b.item+1/\isH k (itg l b.item))
 lo:0<=b.next
 hi:b.next<=n
def ziF{l:List Ite}{n:Nat}{x:Ite}(h:l[n]? =some x):itg l (n:Int)=x:=by
 simp_all
theorem znB(k:Int)(l:List Ite):∀n,n<=l.length->(∀b∈bdK k l n,BdOk k l n b/\b.fin=false)/\(bdK k l n).Pairwise (λb c=>b.next<=bdF c)
 |0,_=>by
  grind[bdK,BdOk]
 |n+1,hn=>by
  obtain⟨h1,K⟩:=znB k l n aa;have hx:l[n]? =some l[n]:=lgg aa;rw[zdh hx];have H:=ziF hx;generalize l[n]=x at*
  have a1:∀b∈bdK k l n++(if isH k x then[(⟨n,n+1,false⟩:Bd)]else[]),BdOk k l (n+1) b/\b.fin=false:=by
   grind[BdOk]
  have a2:(bdK k l n++(if isH k x then[(⟨n,n+1,false⟩:Bd)]else[])).Pairwise (λb c=>b.next<=bdF c):=by
   refine vW.2 ⟨K,?_,?_⟩
   ·split<;>simp
   ·intro b N c Q;split at Q
    ·simp at Q;subst Q;have:=(h1 b N).1.hi
     grind
    ·simp at Q
  constructor
  ·grind[BdOk]
  ·refine vW.2 ⟨a2,?_,?_⟩
   ·split<;>simp
   ·intro b N c Q;split at Q
    ·simp at Q;subst Q;have:=(a1 b N).1.hi
     grind
    ·simp at Q
def zqX(k:Int)(l:List Ite):(∀b∈bds k l,BdOk k l l.length b)/\(bds k l).Pairwise (λb c=>b.next<=bdF c):=by
 grind[znB,bds,BdOk]
theorem zmp(k:Int)(l:List Ite):∀n,(bdK k l n)[0]? =some ⟨-1,0,false⟩
 |0=>rfl
 |n+1=>by
  have h:=zmp k l n
  grind[bdK]
def zib(k:Int)(l:List Ite):(bds k l).length=(bdK k l l.length).length+1:=by unfold bds;simp
def zmq(k:Int)(l:List Ite):(bds k l)[0]? =some ⟨-1,0,false⟩:=by
 grind[bds,zmp]
def ztU{k:Int}{l:List Ite}{i:Nat}{b:Bd}(h:(bds k l)[i]? =some b):b.fin=decide (i+1=(bds k l).length):=by
 grind[bds,znB]
structure SgOk(k:Int)(l:List Ite)(s:Sgm):Prop where
 f0:0<=s.From
 ft:s.From<=s.To
 tl:s.To<=l.length
 lf:s.Left=-1\/(0<=s.Left/\s.Left+1=s.From/\(itg l s.Left).Value<=k/\(itg l s.Left).Color=false/\(itg l s.Left).Fixed=false)
 rt:s.Right=-1\/(s.Right=s.To/\s.To<l.length/\(itg l s.Right).Value<=k/\(itg l s.Right).Color=false/\(itg l s.Right).Fixed=false)
structure SgsOk(k:Int)(l:List Ite)(S:List Sgm):Prop where
 all:∀s∈S,SgOk k l s
 nx:∀n s t,S[n]? =some s->S[n+1]? =some t->t.Left=s.Right/\s.To<=t.From/\(0<=s.Right->t.From=s.To+1)
 st:∀s,S[0]? =some s->s.Left=-1
def znC{k:Int}{l:List Ite}{n:Nat}{b:Bd}(h:BdOk k l n b):hdI l b=-1\/(0<=b.item/\hdI l b=b.item/\b.next=b.item+1/\(itg l b.item).Value<=k/\(itg l b.item).Color=false/\(itg l b.item).Fixed=false):=by
 unfold hdI;split
 ·exact .inl rfl
 ·rename_i Q;have h1:¬b.item<0:=λh=>Q (.inl h)
  have K:(itg l b.item).Fixed=false:=by
   cases hf:(itg l b.item).Fixed with
   |false=>rfl
   |true=>exact absurd (.inr hf) Q
  rcases h.it with N|⟨N,H,G⟩;all_goals simp_all
theorem zyW{k:Int}{l:List Ite}{b c:Bd}(H:BdOk k l l.length b)(N:BdOk k l l.length c)(h:b.next<=bdF c):SgOk k l (sg0 l b c):=by
 have xT:bdF c<=c.next:=by
  unfold bdF;rcases N.it with Q|⟨Q,K,G⟩;all_goals omega
 refine⟨H.lo,h,by have:=N.hi;grind[sg0],?_,?_⟩
 ·rcases znC H with Q|⟨Q,K,G,E⟩;all_goals grind[sg0]
 ·rcases znC N with Q|⟨Q,K,G,E⟩
  ·exact .inl Q
  ·refine .inr ?_;have hF:bdF c=c.item:=ak
   show hdI l c=bdF c/\bdF c<l.length/\(itg l (hdI l c)).Value<=k/\(itg l (hdI l c)).Color=false/\(itg l (hdI l c)).Fixed=false;rw[K,hF];exact⟨rfl,by have:=N.hi;omega,E⟩
theorem zic{l:List Ite}{B:List Bd}{i:Nat}{s:Sgm}(h:(sgs0 l B)[i]? =some s):∃b c,B[i]? =some b/\B[i+1]? =some c/\s=sg0 l b c:=by
 have hi:=(j5.1 h).1;rw[zeb]at hi;have Q:B[i]? =some B[i]:=lgg aa
 grind[zmn]
theorem ztV{B:List Bd}(h:B.Pairwise (λb c=>b.next<=bdF c)){i:Nat}{b c:Bd}(Q:B[i]? =some b)(N:B[i+1]? =some c):b.next<=bdF c:=by
 grind[List.pairwise_iff_getElem]
def zoz(k:Int)(l:List Ite):SgsOk k l (sgs0 l (bds k l)):=by
 obtain⟨h1,h2⟩:=zqX k l;refine⟨?_,?_,?_⟩
 ·grind[List.getElem?_of_mem,zic,zyW,ztV]
 ·intro n s t hs ht;obtain⟨b,c,N,K,rfl⟩:=zic hs;obtain⟨c',d,Q,hd,rfl⟩:=zic ht;rw[K]at Q;cases Q;have ho:=h1 c (j6 K);refine⟨rfl,?_,?_⟩
  ·show bdF c<=c.next;unfold bdF;rcases ho.it with H|⟨H,G,E⟩;all_goals omega
  ·intro h;have h:0<=hdI l c:=h;show c.next=bdF c+1;rcases znC ho with H|⟨H,G,E,h6⟩;all_goals simp_all
 ·intro s hs;obtain⟨b,c,N,K,rfl⟩:=zic hs;rw[zmq]at N;cases N;rfl
def SgOk.cnt{k:Int}{l:List Ite}{s:Sgm}(h:SgOk k l s)(t:Tm):SgOk k l {s with Count:=t}:=⟨h.f0,h.ft,h.tl,h.lf,h.rt⟩
def zdB{k:Int}{l:List Ite}(h:segE m k l=0):SgsOk k l (segV m k l):=by
 have h0:=zoz k l;unfold segV;rw[j7 h];refine⟨?_,?_,?_⟩
 ·intro s hs;obtain⟨t,ht,rfl⟩:=jS.1 hs;exact(h0.all t ht).cnt _
 ·intro n s t hs ht;rw[j9]at hs ht;obtain⟨s',Q,rfl⟩:=u0.1 hs;obtain⟨t',N,rfl⟩:=u0.1 ht;exact h0.nx n s' t' Q N
 ·intro s hs;rw[j9]at hs;obtain⟨s',Q,rfl⟩:=u0.1 hs;exact h0.st s' Q
def ziG{k:Int}{l:List Ite}(h:segE m k l=0):unE m k=0/\ckIE l=0/\segX (unT m k) l (sgs0 l (bds k l))=0:=by
 grind[segE]
def sameI(x y:Ite):Prop:=x.Sign=y.Sign/\x.Value=y.Value/\x.Rest=y.Rest/\x.Color=y.Color/\x.Fixed=y.Fixed/\x.Cut=y.Cut
theorem zam(x:Ite):sameI x x:=⟨rfl,rfl,rfl,rfl,rfl,rfl⟩
def sameI.tr{x y z:Ite}(h:sameI x y)(g:sameI y z):sameI x z:=⟨h.1.trans g.1,h.2.1.trans g.2.1,h.2.2.1.trans g.2.2.1,h.2.2.2.1.trans g.2.2.2.1,h.2.2.2.2.1.trans g.2.2.2.2.1,h.2.2.2.2.2.trans g.2.2.2.2.2⟩
theorem zbd{l:List Ite}{i j:Int}{f:Ite->Ite}(hi:0<=i)(Q:0<=j)(hl:i<l.length):itg (upI l i f) j=if i=j then f (itg l i)else itg l j:=by
 grind[upI]
def ziH{l:List Ite}{i j:Int}{f:Ite->Ite}(hf:∀x,sameI (f x) x)(hi:0<=i)(Q:0<=j)(hl:i<l.length):sameI (itg (upI l i f) j) (itg l j):=by
 grind[zbd,zam]
def znD(u:Tm)(x:Ite):sameI (zbn u x) x:=zam _
def znE(u:Tm)(x:Ite):sameI (zbx u x) x:=zam _
def zp8(x:Ite):sameI (dblI x) x:=zam _
structure ChOk(s:Sgm)(c:Int):Prop where
 lf:c=1\/c=3->0<=s.Left
 rt:c=2\/c=3->0<=s.Right
 al:c=4->s.From<s.To
def zid{p a t:Bool}{s:Sgm}{c:Int}(h:c∈alR p a t s):(c=0/\(s.Count.N%3=0\/s.Free=true))\/(c=1/\p=true/\s.Count.N%3=1)\/(c=2/\a=true/\s.Free=false/\s.Count.N%3=1)\/(c=3/\p=true/\a=true/\s.Free=false/\s.Count.N%3=2)\/(c=4/\t=true/\s.Free=false/\s.Count.N%3=2):=by
 unfold alR at h;simp only[w9]at h;rcases h with(((h|h)|h)|h)|h
 ·split at h
  ·simp at h;exact .inl ⟨h,ai⟩
  ·simp at h
 all_goals simp_all
def zwV{k:Int}{l:List Ite}{s:Sgm}(h:poQ u k l L s=true):0<=s.Left/\lgQ u (itg l s.Left)=true/\rcQ u (fsL (itR l s)) (itg l s.Left).After=true:=by
 simp_all[poQ]
def zwW{k:Int}{l:List Ite}{s:Sgm}(h:anQ u k l s=true):0<=s.Right/\lgQ u (itg l s.Right)=true/\rcQ u (lasL (itR l s)) (itg l s.Right).Before=true:=by
 simp_all[anQ]
def zBu{k:Int}{l:List Ite}{s:Sgm}(h:atQ u k l s=true):¬s.From=s.To/\ntQ u k (itg l (s.To-1))=true:=by
 simp_all[atQ]
def zla{k:Int}{l:List Ite}{s:Sgm}{c:Int}(hs:s.From<=s.To)(h:c∈alQ u k l L s):ChOk s c:=by
 unfold alQ at h;rcases zid h with⟨h1,_⟩|⟨h1,Q,_⟩|⟨h1,Q,_⟩|⟨h1,Q,N,_⟩|⟨h1,Q,_⟩
 ·exact⟨aa,aa,aa⟩
 ·exact⟨λ_=>(zwV Q).1,aa,aa⟩
 ·exact⟨aa,λ_=>(zwW Q).1,aa⟩
 ·exact⟨λ_=>(zwV Q).1,λ_=>(zwW N).1,aa⟩
 ·exact⟨aa,aa,λ_=>by have:=(zBu Q).1;omega⟩
def ztW{k:Int}{s:Sgm}{c:Int}{l0 l:List Ite}(hs:SgOk k l0 s)(hl:l.length=l0.length)(H:ChOk s c){i:Int}(hi:0<=i):
 sameI (itg (chN u s c l) i) (itg l i)/\(¬i=s.Left->¬i=s.Right->¬i=s.To-1->itg (chN u s c l) i=itg l i)/\(¬i=s.Left->(itg (chN u s c l) i).After=(itg l i).After):=by
 unfold chN;simp only;have A:(if c=1\/c=3 then upI l s.Left (zbn u)else l).length=l.length:=by split<;>simp[zeL]
 have B:(if c=2\/c=3 then upI (if c=1\/c=3 then upI l s.Left (zbn u)else l) s.Right (zbx u)else(if c=1\/c=3 then upI l s.Left (zbn u)else l)).length=l.length:=by split<;>simp[zeL,A]
 have h1:sameI (itg (if c=1\/c=3 then upI l s.Left (zbn u)else l) i) (itg l i)/\(¬i=s.Left->itg (if c=1\/c=3 then upI l s.Left (zbn u)else l) i=itg l i):=by
  split
  ·rename_i h;have h0:=H.lf h;have Q:s.Left<l.length:=by have:=hs.tl;have:=hs.ft;rcases hs.lf with K|K<;>omega
   refine⟨ziH (znD u) h0 hi Q,λhn=>?_⟩;rw[zbd h0 hi Q,j8 aa]
  ·exact⟨zam _,λ_=>rfl⟩
 generalize(if c=1\/c=3 then upI l s.Left (zbn u)else l)=l1 at*
 have K:sameI (itg (if c=2\/c=3 then upI l1 s.Right (zbx u)else l1) i) (itg l1 i)/\(¬i=s.Right->itg (if c=2\/c=3 then upI l1 s.Right (zbx u)else l1) i=itg l1 i)/\(itg (if c=2\/c=3 then upI l1 s.Right (zbx u)else l1) i).After=(itg l1 i).After:=by
  split
  ·rename_i h;have h0:=H.rt h;have Q:s.Right<l1.length:=by rw[A,hl];rcases hs.rt with K|K<;>omega
   refine⟨ziH (znE u) h0 hi Q,λhn=>?_,?_⟩
   ·rw[zbd h0 hi Q,j8 aa]
   ·rw[zbd h0 hi Q];split
    ·rename_i h;subst h;rfl
    ·rfl
  ·exact⟨zam _,λ_=>rfl,rfl⟩
 generalize(if c=2\/c=3 then upI l1 s.Right (zbx u)else l1)=l2 at*
 have G:sameI (itg (if c=4 then upI l2 (s.To-1) dblI else l2) i) (itg l2 i)/\(¬i=s.To-1->itg (if c=4 then upI l2 (s.To-1) dblI else l2) i=itg l2 i)/\(itg (if c=4 then upI l2 (s.To-1) dblI else l2) i).After=(itg l2 i).After:=by
  split
  ·rename_i h;have h0:=H.al h;have Q:s.To-1<l2.length:=by rw[B,hl];have:=hs.tl;omega
   have N:0<=s.To-1:=by have:=hs.f0;omega
   refine⟨ziH zp8 N hi Q,λhn=>?_,?_⟩
   ·rw[zbd N hi Q,j8 aa]
   ·rw[zbd N hi Q];split
    ·rename_i h;subst h;rfl
    ·rfl
  ·exact⟨zam _,λ_=>rfl,rfl⟩
 refine⟨G.1.tr (K.1.tr h1.1),λa b d=>?_,λa=>?_⟩;all_goals simp_all
theorem ziI(q r:Int)(x:Bool)(L:List (Int×Bool)):mget q (mput r x L)=if r=q then some x else mget q L:=by
 exact zeI q r x L
structure StaOk(l:List Ite)(S:List Sgm)(M:List Int)(n:Nat)(st:List Ite×List (Int×Bool)):Prop where
 len:st.1.length=l.length
 same:∀i:Int,0<=i->sameI (itg st.1 i) (itg l i)
 rest:∀s,S[n]? =some s->∀i:Int,s.From<=i->itg st.1 i=itg l i/\mget i st.2=none
 left:∀s,S[n]? =some s->0<=s.Left->(itg st.1 s.Left).After=(itg l s.Left).After/\(mget s.Left st.2).getD false=(decide (0<n)&&(decide (M.getD (n-1) 0=2)||decide (M.getD (n-1) 0=3)))
def zlb{u:Tm}{k:Int}{S:List Sgm}{l:List Ite}{M:List Int}(N:SgsOk k l S):∀n,n<=S.length->okJ u k S l M n=true->StaOk l S M n (stK u S l M n)
 |0,_,_=>by
  refine⟨rfl,λ_ _=>zam _,λs hs i hi=>⟨rfl,rfl⟩,λs hs h0=>?_⟩;have:=N.st s hs;omega
 |n+1,hn,hk=>by
  have hk:(okJ u k S l M n&&decide (M.getD n 0∈alK u k S l M n))=true:=hk;simp only[jE,w8]at hk;have ih:=zlb N n aa hk.1;rw[zmo];have hs:S[n]? =some S[n]:=lgg aa;have K:S.getD n default=S[n]:=by grind
  have Q:=N.all _ (j6 hs);unfold alK at hk;rw[K]at hk⊢;generalize S[n]=s at*
  generalize stK u S l M n=st at*
  have H:=zla Q.ft hk.2;generalize hM:M.getD n 0=c at*
  have G:=λ(i:Int)(hi:0<=i)=>ztW (u:=u) Q ih.len H hi
  have E:s.Left<s.From:=by have:=Q.f0;rcases Q.lf with h|h<;>omega
  refine⟨by rw[zoy];exact ih.len,λi hi=>(G i hi).1.tr (ih.same i hi),λt ht i hi=>?_,λt ht h0=>?_⟩
  ·obtain⟨n1,n2,n3⟩:=N.nx n s t hs ht;have xT:0<=i:=by have:=(N.all t (j6 ht)).f0;omega
   have hf:=Q.ft;have hr:¬i=s.Right:=by rcases Q.rt with h|h<;>omega
   have:=ih.rest s hs i aa
   grind[chL,ziI]
  ·obtain⟨n1,n2,n3⟩:=N.nx n s t hs ht;have hr:0<=s.Right:=aa
   have x2:s.Right=s.To:=by rcases Q.rt with h|h<;>omega
   have hf:=Q.ft;have x1:=ih.rest s hs t.Left aa
   grind[chL,ziI]
end
section
variable{i j:Nat}{k:Int}{n:Nat}{zs:List AV}
def bdX(k:Int)(l:List Ite):List (List AV):=(bds k l).map λb=>[bdA b]
def zlc{l:List Ite}(h:(bdX k l)[j]? =some zs):∃b,(bds k l)[j]? =some b/\zs=[bdA b]:=by
 rw[bdX,j9]at h;cases hk:(bds k l)[j]? with
 |none=>simp[hk]at h
 |some b=>simp[hk]at h;exact⟨b,rfl,h.symm⟩
def zoA(k:Int)(l:List Ite):(bdX k l).length=(bdK k l l.length).length+1:=by unfold bdX;rw[jD,zib]
def zoB{k:Int}{l:List Ite}(n:Nat):∀d,∃r,bdK k l (n+d)=bdK k l n++r
 |0=>⟨[],ah⟩
 |d+1=>by
  obtain⟨r,hr⟩:=zoB (k:=k) (l:=l) n d;cases hx:l[n+d]? with
  |none=>
   have e:bdK k l (n+d+1)=bdK k l (n+d):=by
    conv=>lhs;unfold bdK
    rw[hx]
   exact⟨r,by rw[show n+(d+1)=n+d+1 from rfl,e];exact hr⟩
  |some x=>exact⟨r++((if isH k x then[⟨(n+d:Nat),(n+d:Nat)+1,false⟩]else[])++if isC k x then[⟨-1,(n+d:Nat)+1,false⟩]else[]),by
   show bdK k l ((n+d)+1)=_;rw[zdh hx,hr];simp only[u4]⟩
def znF{l:List Ite}{p:List Bd}{b:Bd}{q:List Bd}(hn:n+1<=l.length)(h:bdK k l (n+1)=p++b::q):(bds k l)[p.length]? =some b:=by
 obtain⟨r,hr⟩:=zoB (k:=k) (l:=l) (n+1) (l.length-(n+1));rw[show n+1+(l.length-(n+1))=l.length by omega,h]at hr;unfold bds;rw[hr];simp
def ziJ{l:List Ite}{b:Bd}(h:(bds k l)[i]? =some b):(bdX k l)[i]? =some [bdA b]:=by
 unfold bdX;rw[j9,h];rfl
def zqY{l:List Ite}{x:Ite}(hx:l[n]? =some x)(h:¬isH k x):
 (bdK k l (n+1)).length=(bdK k l n).length+(if isC k x then 1 else 0)/\(isC k x->(bdX k l)[(bdK k l n).length]? =some [bdA ⟨-1,(n:Int)+1,false⟩]):=by
 have hs:=zdh (k:=k) hx;rw[j8 h,wQ]at hs;have Q:=(j5.1 hx).1;refine⟨by rw[hs,jJ];split<;>rfl,λN=>ziJ (znF (q:=[]) (n:=n) aa (by rw[hs,j7 N]))⟩
def zBv{l:List Ite}{x:Ite}(hx:l[n]? =some x)(h:isH k x):
 (bdX k l)[(bdK k l n).length]? =some [bdA ⟨(n:Int),(n:Int)+1,false⟩]/\(bdK k l (n+1)).length=(bdK k l n).length+1+(if isC k x then 1 else 0)/\(isC k x->(bdX k l)[(bdK k l n).length+1]? =some [bdA ⟨-1,(n:Int)+1,false⟩]):=by
 have hs:=zdh (k:=k) hx;rw[j7 h]at hs;have Q:=(j5.1 hx).1;refine⟨ziJ (znF (n:=n) aa (by rw[hs,u4];rfl)),by rw[hs,jJ,jJ];split<;>rfl,λN=>?_⟩;have:=ziJ (znF (k:=k) (l:=l) (p:=bdK k l n++[⟨(n:Int),(n:Int)+1,false⟩]) (q:=[]) (n:=n) (b:=⟨-1,(n:Int)+1,false⟩) aa (by rw[hs,j7 N]));rw[jJ]at this;exact this
def zHn(k:Int)(l:List Ite):(bdX k l)[0]? =some [bdA ⟨-1,0,false⟩]:=ziJ (zmq k l)
def zyX(k:Int)(l:List Ite):(bdX k l)[(bdK k l l.length).length]? =some [bdA ⟨-1,(l.length:Int),true⟩]:=ziJ (by unfold bds;simp)
attribute [local irreducible] bdK bds bdX
def zec(k:Int)(l:List Ite)(hl:l.length<=4000000):It prog 346 [.ept (λ_:Unit=>[.sl itE l]) () 0,.ept (λ_:Unit=>[iv k]) () 0] (bdX k l):=by
 have k3:(bdK k l 0).length=1:=by unfold bdK;rfl
 have k2:=zia k l l.length;refine zc1 func346 ntmps346 (λg w d ds Y lY hY=>?_);apply ye;apply yc;iterate 2 refine ya ?_
 refine bX hY rfl rfl rfl (bK _) rfl rfl (zHn k l) rfl (λb=>?_);refine gd ?_ ?_<;>intro v9
 ·subst v9;refine bC ?_;refine⟨.inr rfl,_,false,rfl,λhb=>by simp at hb⟩
 subst v9;apply yf;apply ye;apply yc;refine yo ?_;apply kX;refine y9 [0,1,2,10,11] (λn zz=>(12,iv (n:Int))::zz) [] (λn zz=>(1000000,.yld (bdK k l n).length true)::zz) l.length (λn hk=>?_);refine gd ?_ ?_<;>intro j4
 ·have v3:=@getX _ l n aa;obtain⟨x,hx,j3⟩:=v3;apply yf;apply ye;apply kX;apply yc;iterate 3 refine ya ?_
  refine yP ?_;refine ya ?_;refine bF ?_;apply bD;iterate 2 apply ye
  have v2:x.Color=true\/(x.Color=false/\¬x.Value<=k)\/(x.Color=false/\x.Value<=k):=by cases x.Color<;>simp;omega
  rcases v2 with hp|⟨hp,hq⟩|⟨hp,hq⟩
  ·have K:((!x.Color)==true)=false:=by rw[hp];rfl
   have w2:¬isH k x:=λh=>by rw[h.1]at hp;cases hp
   have hZ:=zqY (k:=k) hx w2;obtain⟨E,hC⟩:=hZ;apply yd;(iterate 4 refine ya ?_);(iterate 4 refine zbc ?_);(iterate 2 refine ya ?_);(iterate 7 refine zbc ?_);refine gd ?_ ?_<;>intro v1
   ·exact absurd v1 ac
   apply yf;apply ye;have G:¬0<x.Cut\/(0<x.Cut/\¬x.Cut<=k)\/(0<x.Cut/\x.Cut<=k):=aa
   rcases G with N|⟨N,Q⟩|⟨N,Q⟩
   ·have K:(decide (0<x.Cut)==true)=false:=by rw[wB N];rfl
    rw[j8 (λh=>N h.1),uX]at E;apply yd;(iterate 4 refine ya ?_);(iterate 4 refine zbc ?_);(iterate 2 refine ya ?_);(iterate 6 refine zbc ?_);refine gd ?_ ?_<;>intro v0
    ·exact absurd v0 ac
    refine gq ?_;refine yr (n+1)
   ·have K:(decide (0<x.Cut)==true)=true:=by rw[wD N];rfl
    have H:(decide (x.Cut<=k)==true)=false:=by rw[wB Q];rfl
    rw[j8 (λh=>Q h.2),uX]at E;apply yd;(iterate 4 refine ya ?_);(iterate 4 refine zS ?_);(iterate 2 refine ya ?_);(iterate 6 refine zbc ?_);refine gd ?_ ?_<;>intro k9
    ·exact absurd k9 ac
    refine gq ?_;refine yr (n+1)
   ·have K:(decide (0<x.Cut)==true)=true:=by rw[wD N];rfl
    have H:(decide (x.Cut<=k)==true)=true:=by rw[wD Q];rfl
    have xT:=hC ⟨N,Q⟩;rw[j7 ⟨N,Q⟩]at E;apply yd;(iterate 4 refine ya ?_);(iterate 4 refine zS ?_);(iterate 2 refine ya ?_);(iterate 4 refine zS ?_);refine zbT hY rfl rfl rfl (λ_=>⟨_,_,rfl,rfl,rfl,bK _,rfl,rfl,xT,λb=>?_⟩) (λh=>absurd (h.symm.trans H) ac);refine zS ?_;refine gd ?_ ?_<;>intro v8
    ·subst v8;refine bC ?_;refine⟨.inr rfl,_,false,rfl,λhb=>by simp at hb⟩
    subst v8;refine gq ?_;refine yr (n+1)
  ·have K:((!x.Color)==true)=true:=by rw[hp];rfl
   have H:(decide (x.Value<=k)==true)=false:=by rw[wB hq];rfl
   have w2:¬isH k x:=λh=>hq h.2
   have hZ:=zqY (k:=k) hx w2;obtain⟨E,hC⟩:=hZ;apply yd;(iterate 4 refine ya ?_);(iterate 4 refine zS ?_);(iterate 2 refine ya ?_);(iterate 7 refine zbc ?_);refine gd ?_ ?_<;>intro k8
   ·exact absurd k8 ac
   apply yf;apply ye;have G:¬0<x.Cut\/(0<x.Cut/\¬x.Cut<=k)\/(0<x.Cut/\x.Cut<=k):=aa
   rcases G with N|⟨N,Q⟩|⟨N,Q⟩
   ·have K:(decide (0<x.Cut)==true)=false:=by rw[wB N];rfl
    rw[j8 (λh=>N h.1),uX]at E;apply yd;(iterate 4 refine ya ?_);(iterate 4 refine zbc ?_);(iterate 2 refine ya ?_);(iterate 6 refine zbc ?_);refine gd ?_ ?_<;>intro k7
    ·exact absurd k7 ac
    refine gq ?_;refine yr (n+1)
   ·have K:(decide (0<x.Cut)==true)=true:=by rw[wD N];rfl
    have H:(decide (x.Cut<=k)==true)=false:=by rw[wB Q];rfl
    rw[j8 (λh=>Q h.2),uX]at E;apply yd;(iterate 4 refine ya ?_);(iterate 4 refine zS ?_);(iterate 2 refine ya ?_);(iterate 6 refine zbc ?_);refine gd ?_ ?_<;>intro k6
    ·exact absurd k6 ac
    refine gq ?_;refine yr (n+1)
   ·have K:(decide (0<x.Cut)==true)=true:=by rw[wD N];rfl
    have H:(decide (x.Cut<=k)==true)=true:=by rw[wD Q];rfl
    have xT:=hC ⟨N,Q⟩;rw[j7 ⟨N,Q⟩]at E;apply yd;(iterate 4 refine ya ?_);(iterate 4 refine zS ?_);(iterate 2 refine ya ?_);(iterate 4 refine zS ?_);refine zbT hY rfl rfl rfl (λ_=>⟨_,_,rfl,rfl,rfl,bK _,rfl,rfl,xT,λb=>?_⟩) (λh=>absurd (h.symm.trans H) ac);refine zS ?_;refine gd ?_ ?_<;>intro x2
    ·subst x2;refine bC ?_;refine⟨.inr rfl,_,false,rfl,λhb=>by simp at hb⟩
    subst x2;refine gq ?_;refine yr (n+1)
  ·have K:((!x.Color)==true)=true:=by rw[hp];rfl
   have H:(decide (x.Value<=k)==true)=true:=by rw[wD hq];rfl
   have hZ:=zBv (k:=k) hx ⟨hp,hq⟩;obtain⟨k5,E,hC⟩:=hZ;apply yd;(iterate 4 refine ya ?_);(iterate 4 refine zS ?_);(iterate 2 refine ya ?_);(iterate 5 refine zS ?_);refine zbT hY rfl rfl rfl (λ_=>⟨_,_,rfl,rfl,rfl,bK _,rfl,rfl,k5,λb=>?_⟩) (λh=>absurd (h.symm.trans H) ac);refine zS ?_;refine gd ?_ ?_<;>intro x1
   ·subst x1;refine bC ?_;refine⟨.inr rfl,_,false,rfl,λhb=>by simp at hb⟩
   subst x1;apply yf;apply ye;have G:¬0<x.Cut\/(0<x.Cut/\¬x.Cut<=k)\/(0<x.Cut/\x.Cut<=k):=aa
   rcases G with N|⟨N,Q⟩|⟨N,Q⟩
   ·have K:(decide (0<x.Cut)==true)=false:=by rw[wB N];rfl
    rw[j8 (λh=>N h.1),uX]at E;apply yd;(iterate 4 refine ya ?_);(iterate 4 refine zbc ?_);(iterate 2 refine ya ?_);(iterate 6 refine zbc ?_);refine gd ?_ ?_<;>intro v5
    ·exact absurd v5 ac
    refine gq ?_;refine yr (n+1)
   ·have K:(decide (0<x.Cut)==true)=true:=by rw[wD N];rfl
    have H:(decide (x.Cut<=k)==true)=false:=by rw[wB Q];rfl
    rw[j8 (λh=>Q h.2),uX]at E;apply yd;(iterate 4 refine ya ?_);(iterate 4 refine zS ?_);(iterate 2 refine ya ?_);(iterate 6 refine zbc ?_);refine gd ?_ ?_<;>intro v4
    ·exact absurd v4 ac
    refine gq ?_;refine yr (n+1)
   ·have K:(decide (0<x.Cut)==true)=true:=by rw[wD N];rfl
    have H:(decide (x.Cut<=k)==true)=true:=by rw[wD Q];rfl
    have xT:=hC ⟨N,Q⟩;rw[j7 ⟨N,Q⟩]at E;apply yd;(iterate 4 refine ya ?_);(iterate 4 refine zS ?_);(iterate 2 refine ya ?_);(iterate 4 refine zS ?_);refine zbT hY rfl rfl rfl (λ_=>⟨_,_,rfl,rfl,rfl,bK _,rfl,rfl,xT,λb=>?_⟩) (λh=>absurd (h.symm.trans H) ac);refine zS ?_;refine gd ?_ ?_<;>intro x0
    ·subst x0;refine bC ?_;refine⟨.inr rfl,_,false,rfl,λhb=>by simp at hb⟩
    subst x0;refine gq ?_;refine yr (n+1)
 ·have k4:n=l.length:=aa
  subst k4;apply bH;apply yd;iterate 4 refine ya ?_
  refine bX hY rfl rfl rfl (bK _) rfl rfl (zyX k l) rfl (λb=>?_);apply bD;refine⟨.inl rfl,_,b,rfl,λh=>by rw[zoA,h];rfl⟩
def zfw(k:Int)(l:List Ite):Fn prog 315 [iv k,itsA l] (.fn 346 [.ept (λ_:Unit=>[.sl itE l]) () 0,.ept (λ_:Unit=>[iv k]) () 0]):=by
 refine bB func315 ntmps315 (λg w d=>?_);apply yc;iterate 2 refine zax ?_
 refine ya ?_;apply yp;refine yC ?_;refine bC ?_;refine yi ((bG (k:=2) rfl rfl).trans (bG (k:=3) rfl rfl)) ?_;refine gq ?_;all_goals exact zR
end
section
variable{j:Nat}{k:Int}
def fsB:Nat->Bool
 |0=>true
 |_+1=>false
def lsB(k:Int)(l:List Ite):Nat->Bd
 |0=>⟨0,0,false⟩
 |j+1=>(bds k l).getD j default
def ziK{l:List Ite}{b:Bd}(h:(bds k l)[j]? =some b):b=lsB k l (j+1):=by
 show b=(bds k l).getD j default;rw[jB,h];rfl
def zqZ{l:List Ite}(h:j<(bds k l).length):(lsB k l (j+1)).item<l.length:=by
 have Q:(bds k l)[j]? =some (bds k l)[j]:=lgg h;rw[←ziK Q];have N:=(zqX k l).1 _ (j6 Q);have:=N.hi;rcases N.it with K|⟨K,H,G⟩<;>omega
def ztX{l:List Ite}(h:j+1<(bds k l).length):sgs0 l ((bds k l).take (j+1))++[sg0 l (lsB k l (j+1)) (lsB k l (j+2))]=sgs0 l ((bds k l).take (j+2)):=by
 have Q:(bds k l)[j]? =some (bds k l)[j]:=lgg aa;have N:(bds k l)[j+1]? =some (bds k l)[j+1]:=lgg h
 have e2:(bds k l).take (j+2)=((bds k l).take j++[(bds k l)[j]])++[(bds k l)[j+1]]:=by
  rw[jK,jK,Q,N];rfl
 have e1:(bds k l).take (j+1)=(bds k l).take j++[(bds k l)[j]]:=by rw[jK,Q];rfl
 rw[e2,e1,zkf,←ziK Q,←ziK N]
def zyY{l:List Ite}:sgs0 l ((bds k l).take 0)=sgs0 l ((bds k l).take 1):=by
 cases bds k l with
 |nil=>rfl
 |cons b r=>rfl
def zq0(k:Int)(l:List Ite)(j:Nat):(sgs0 l ((bds k l).take j)).length<=2*l.length+2:=by
 have h:=zia k l l.length;have Q:=zib k l;rw[zeb,jO];omega
def zyZ{l:List Ite}(h:j<(bds k l).length):((lsB k l (j+1)).fin=true->j+1=(bds k l).length)/\((lsB k l (j+1)).fin=false->j+1<(bds k l).length):=by
 have Q:(bds k l)[j]? =some (bds k l)[j]:=lgg h;rw[←ziK Q];have:=ztU Q;rw[this];constructor
 ·intro h;simpa using h
 ·intro h;have:¬j+1=(bds k l).length:=ao h
  omega
def zq1{l:List Ite}(hf:fsB j=false)(h:j<(bds k l).length):sgs0 l ((bds k l).take j)++[sg0 l (lsB k l j) (lsB k l (j+1))]=sgs0 l ((bds k l).take (j+1)):=by
 cases j with
 |zero=>cases hf
 |succ i=>exact ztX h
def ztY{l:List Ite}(hf:fsB j=true):sgs0 l ((bds k l).take j)=sgs0 l ((bds k l).take (j+1)):=by
 cases j with
 |zero=>exact zyY
 |succ i=>cases hf
def ztZ{l:List Ite}(hf:fsB j=false)(h:j<(bds k l).length):(lsB k l j).item<l.length:=by
 cases j with
 |zero=>cases hf
 |succ i=>exact zqZ aa
attribute [local irreducible] bdK bds bdX sgs0 hdI
def zd2(q:List Ite)(k:Int)(hl:q.length<=1000000):FnO prog 265 [.agg [itsA q],iv k] [] [] (.own 39) [(39,.row smE (sgs0 q (bds k q)) 403 7)]:=by
 have v3:fsB 0=true:=by unfold fsB;rfl
 have v2:lsB k q 0=⟨0,0,false⟩:=by unfold lsB;rfl
 have v1:[]=sgs0 q ((bds k q).take 0):=by rw[kT];unfold sgs0;rfl
 have v0:sgs0 q ((bds k q).take (bdX k q).length)=sgs0 q (bds k q):=by rw[zoA,←zib,jR]
 refine bR [] func265 ntmps265 (λg w d vh=>?_);apply yc;refine zl ?_;refine ya ?_;apply yp;refine yP ?_;apply bD;apply ye;refine yl (zK smE 403 7 5 39 399 rfl rfl) ?_;refine gc (zfw k q) ?_;refine bV (sl:=[2,5,6,7]) (λj=>([.ptr 2 0 0 0,.ptr 5 0 0 0,.ptr 6 0 0 0,.ptr 7 0 0 0],[(1000001,.hold vh []),(2,.box [itsA q] 411),(5,.box [.own 39] 399),(39,.row smE (sgs0 q ((bds k q).take j)) 403 7),(6,.box (bdE (lsB k q j)) 499),(7,.box [.bool (fsB j)] 4)])) (λj=>True) 900001 900002 rfl rfl ac (λj zs E=>by obtain⟨i,_,rfl⟩:=zlc E;rfl) (zec k q aa) trivial rfl rfl ac (jU _) ah (λj zs E=>by obtain⟨i,_,rfl⟩:=zlc E;rfl) (λ_=>rfl) rfl rfl (λl o us=>yh) (trivial) (λj zs E hJ l ready busy rb vs g w hb k9=>?_) (λhJ=>?_)
 ·have x0:=zlc E;obtain⟨b,xT,rfl⟩:=x0;have w2:=ziK xT;subst w2;have H:j<(bds k q).length:=(j5.1 xT).1;have k8:=zq0 k q j;have N:=zyZ H;have k7:fsB (j+1)=false:=by unfold fsB;rfl
  apply yd;refine yP ?_;refine bF ?_;apply bD;refine⟨rfl,rfl,?_⟩;refine gd ?_ ?_<;>intro G
  ·have x2:=ztZ G H;have x1:=zqZ (k:=k) (l:=q) (j:=j) H;have Q:=zq1 G H;unfold sg0 bdF at Q;refine gd ?_ ?_<;>intro v9
   ·rw[j7 v9]at Q;refine gq ?_;refine y4 [24,25,26,27,28,29,30,31,32,33,34,35,36,37] [0,0,2,0,0,0,48,0,0,496,0,1024,4094,8190,16383,32767] mo ?_;(iterate 6 refine yb ?_);refine yI (zaK q (lsB k q j) x2) ?_;(iterate 2 refine yb ?_);refine yI (zaK q (lsB k q (j+1)) x1) ?_;(iterate 3 refine yb ?_);refine ChM.step rfl rfl rfl (zx (k:=37) (enc:=smE) (l:=[⟨(lsB k q j).next,(lsB k q (j+1)).item,hdI q (lsB k q j),hdI q (lsB k q (j+1)),(lsB k q (j+1)).fin,⟨0,0⟩⟩]) ztu ztn ztp ac rfl rfl rfl rfl ac ac (λ_=>rfl) rfl) rfl ?_;refine yD ?_;refine gd ?_ ?_<;>intro v8
    ·have K:(bds k q).take (j+1)=bds k q:=by rw[N.1 v8,jR]
     rw[K]at Q;apply bH;refine⟨[.ptr 2 0 0 0,.ptr 5 0 0 0,.ptr 6 0 0 0,.ptr 7 0 0 0],[(1000001,.hold vh []),(5,.box [.own 39] 399),(39,.row smE (sgs0 q (bds k q)) 403 7)],yh,?_⟩;apply yc;refine yC ?_;refine bC ?_;refine zm4.mk (ts:=[(4,.own 39)]) (.inr rfl) (yh) (.one (.tmp rfl (kZ rfl)))
    apply yf;refine⟨[.ptr 2 0 0 0,.ptr 5 0 0 0,.ptr 6 0 0 0,.ptr 7 0 0 0],[(1000001,.hold vh []),(2,.box [itsA q] 411),(5,.box [.own 39] 399),(39,.row smE (sgs0 q ((bds k q).take (j+1))) 403 7),(6,.box (bdE (lsB k q (j+1))) 499),(7,.box [.bool (fsB (j+1))] 4)],yh,rfl,trivial⟩
   ·rw[j8 aa]at Q;apply yf;refine y4 [24,25,26,27,28,29,30,31,32,33,34,35,36,37] [0,0,2,0,0,0,48,0,0,496,0,1024,4094,8190,16383,32767] mo ?_;(iterate 6 refine yb ?_);refine yI (zaK q (lsB k q j) x2) ?_;(iterate 2 refine yb ?_);refine yI (zaK q (lsB k q (j+1)) x1) ?_;(iterate 3 refine yb ?_);refine ChM.step rfl rfl rfl (zx (k:=37) (enc:=smE) (l:=[⟨(lsB k q j).next,(lsB k q (j+1)).next,hdI q (lsB k q j),hdI q (lsB k q (j+1)),(lsB k q (j+1)).fin,⟨0,0⟩⟩]) ztu ztn ztp ac rfl rfl rfl rfl ac ac (λ_=>rfl) rfl) rfl ?_;refine yD ?_;refine gd ?_ ?_<;>intro v5
    ·have K:(bds k q).take (j+1)=bds k q:=by rw[N.1 v5,jR]
     rw[K]at Q;apply bH;refine⟨[.ptr 2 0 0 0,.ptr 5 0 0 0,.ptr 6 0 0 0,.ptr 7 0 0 0],[(1000001,.hold vh []),(5,.box [.own 39] 399),(39,.row smE (sgs0 q (bds k q)) 403 7)],yh,?_⟩;apply yc;refine yC ?_;refine bC ?_;refine zm4.mk (ts:=[(4,.own 39)]) (.inr rfl) (yh) (.one (.tmp rfl (kZ rfl)))
    apply yf;refine⟨[.ptr 2 0 0 0,.ptr 5 0 0 0,.ptr 6 0 0 0,.ptr 7 0 0 0],[(1000001,.hold vh []),(2,.box [itsA q] 411),(5,.box [.own 39] 399),(39,.row smE (sgs0 q ((bds k q).take (j+1))) 403 7),(6,.box (bdE (lsB k q (j+1))) 499),(7,.box [.bool (fsB (j+1))] 4)],yh,rfl,trivial⟩
  ·have Q:=ztY (k:=k) (l:=q) G;refine gd ?_ ?_<;>intro v4
   ·have K:(bds k q).take (j+1)=bds k q:=by rw[N.1 v4,jR]
    rw[K]at Q;apply bH;refine⟨[.ptr 2 0 0 0,.ptr 5 0 0 0,.ptr 6 0 0 0,.ptr 7 0 0 0],[(1000001,.hold vh []),(5,.box [.own 39] 399),(39,.row smE (sgs0 q (bds k q)) 403 7)],yh,?_⟩;apply yc;refine yC ?_;refine bC ?_;refine zm4.mk (ts:=[(4,.own 39)]) (.inr rfl) (yh) (.one (.tmp rfl (kZ rfl)))
   apply yf;refine⟨[.ptr 2 0 0 0,.ptr 5 0 0 0,.ptr 6 0 0 0,.ptr 7 0 0 0],[(1000001,.hold vh []),(2,.box [itsA q] 411),(5,.box [.own 39] 399),(39,.row smE (sgs0 q ((bds k q).take (j+1))) 403 7),(6,.box (bdE (lsB k q (j+1))) 499),(7,.box [.bool (fsB (j+1))] 4)],yh,rfl,trivial⟩
 apply yc;refine yC ?_;refine bC ?_;refine zm4.mk (ts:=[(4,.own 39)]) (.inr rfl) (yh) (.one (.tmp rfl (kZ rfl)))
end
end Go.Rse
