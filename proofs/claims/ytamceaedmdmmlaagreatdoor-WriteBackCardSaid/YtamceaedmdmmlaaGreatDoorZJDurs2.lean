/-
  Walks.
-/
import Derived.Test.YtamceaedmdmmlaaGreatDoorZJRef9
set_option linter.all false
set_option maxHeartbeats 2000000
namespace Go.Rse
open Go Go.Proofs Go.Proofs.Tryz
attribute [local irreducible] Pur yy yz Ex X Fn Imp LeV LeB FnO It yH
section
def znq:mpOk prog 218 3 61:=⟨by kernel_rfl,_,Tryz.underlying3⟩
def zk4:∃d,prog.underlying 3=some (.int d)/\d=.i64:=⟨_,Tryz.underlying3,rfl⟩
attribute [local irreducible] zau zk zad zb ckD prL twos zaE refT dvK mget mput bsT duE duV yw durT clr
def zk5(m:Mn)(l:List Sg)(mi:List Int)(hl:l.length<=1000)(w2:mi.length<=1000):Fn prog 102 [mnA m,sgsA l,yc mi] (.tup [tmsA (duV m l mi),iv (duE m l mi)]):=by
 have v9:=zdZ m l;have v8:[]=zaE (prL m l) mi 0:=by unfold zaE;rfl
 refine kR func102 ntmps102 (λg w d=>?_);refine gq ?_;refine zZ [(39,39)] (zeA m l hl) ?_;refine gd ?_ ?_<;>intro U
 ·have hE:=zwo (mi:=mi) U;have N:=zkz hE U;apply ye;refine yC ?_;refine kQ ?_;refine kM (yd (ts:=[(6,tmsA []),(7,iv (ckD m l))]) (hs:=[])) ?_;refine yl ?_ ?_;all_goals(first|exact j9 tmsA N|exact j9 (AV.int .i64) hE)
 apply yk;iterate 2 apply yh
 refine kT (kL (k:=39) rfl) ?_;refine gd ?_ ?_<;>intro v5
 ·have hE:=zwp (mi:=mi) U (by omega);have N:=zkz hE (by decide);apply ye;refine yQ ?_;refine kQ ?_;refine kM (yd (ts:=[(6,tmsA []),(7,iv 2)]) (hs:=[])) ?_;refine yl ?_ ?_;all_goals(first|exact j9 tmsA N|exact j9 (AV.int .i64) hE)
 refine gq ?_;refine bE (zhz (k:=32) (λi:Int=>iv i) tmA) rfl rfl ?_;refine yj ?_;apply yh;apply ye;refine yC ?_;apply kP;refine zW (λk=>[(1,sgsA l),(2,yc mi),(3,.ptr 3 0 0 0),(10,.mp 32),(33,yc (prL m l)),(34,iv (prL m l).length),(35,iv (k:Int))]) (λk=>[(3,.box (mnE m) 27),(32,.mpb (λi:Int=>iv i) tmA (zaE (prL m l) mi k))]) (λk=>k<=(prL m l).length/\mnK mi k) ((prL m l).length) (λk hk=>?_) (hJ:=by exact⟨by omega,zwn mi⟩);obtain⟨v4,J⟩:=hk;refine gd ?_ ?_<;>intro v3
 ·have T:=@getX _ (prL m l) k (by omega);obtain⟨x,hx,v2⟩:=T;have v1:=zrA hx;have T:=@getX _ mi k (by omega);obtain⟨y,E,v0⟩:=T;refine gd ?_ ?_<;>intro xT
  ·have x1:=zqd (p:=prL m l) E xT;refine gq ?_;refine yu (k+1) (hJ:=by exact⟨by omega,zry J E (by omega)⟩) (hI:=yg)
  ·refine gd ?_ ?_<;>intro x4
   ·have x1:=zqc hx E x4;refine gq ?_;refine zas (ze1 (venc:=tmA) ⟨3,2⟩ rfl rfl rfl rfl rfl znq zk4 (λ_ _=>rfl)) ?_;refine zas (ze1 (venc:=tmA) ⟨1,2⟩ rfl rfl rfl rfl rfl znq zk4 (λ_ _=>rfl)) ?_;refine gq ?_;refine yu (k+1) (hJ:=by exact⟨by omega,zry J E (by omega)⟩) (hI:=yg)
   ·have hE:=zwq U (zmR E xT x4);have N:=zkz hE (by decide);apply ye;refine yQ ?_;refine kQ ?_;refine kM (yd (ts:=[(6,tmsA []),(7,iv 2)]) (hs:=[])) ?_;refine yl ?_ ?_;all_goals(first|exact j9 tmsA N|exact j9 (AV.int .i64) hE)
 ·have x0:k=(prL m l).length:=by omega
  subst x0;have hok:mnOk mi=true:=zrz (by rw[show mi.length=(prL m l).length by omega];exact J);have hE:=zwr U (by omega) hok;have N:=zws hE;have u4:[]=dvK m l (duM m l mi) 0:=by unfold dvK;rfl
  apply bA;apply ye;refine yj ?_;iterate 2 apply yh
  refine kT (yG tmE 61 2 13 13 rfl rfl) ?_;apply yf;refine yC ?_;apply kP;refine zm (λk=>[(3,.ptr 3 0 0 0),(10,.mp 32),(13,.own 13),(56,sgsA l),(57,iv l.length),(58,iv (k:Int))]) (λk=>[(3,.box (mnE m) 27),(32,.mpb (λi:Int=>iv i) tmA (duM m l mi)),(13,.row tmE (dvK m l (duM m l mi) k) 61 2)]) l.length (λk hk=>?_);refine gd ?_ ?_<;>intro u3
  ·have T:=@getX _ l k (by omega);obtain⟨s,hs,u2⟩:=T;have w9:=zlB m l (duM m l mi) k;apply yk;apply yh;apply kP;apply ye;(iterate 3 refine ya ?_);refine za ?_;refine ya ?_;refine kV ?_;apply yE;(iterate 2 refine ya ?_);refine ya (hs:=zsK (venc:=tmA) tmZ rfl rfl rfl znq zk4 (λ_ _=>rfl) (zsM ze61)) ?_;refine gd ?_ ?_<;>intro H
   ·have V:=zlA (m:=m) (M:=duM m l mi) hs H;refine gq ?_;refine yu (k+1) (hI:=yg)
   have Z:=zb0 U hs H;have V:=znK (m:=m) (M:=duM m l mi) hs H;refine gd ?_ ?_<;>intro G
   ·rw[←zye (z:=tmZ) G]at V;refine gq ?_;refine yD tmE [⟨_,_⟩] ?_;refine gq ?_;refine yu (k+1) (hI:=yg)
   ·refine gc (zbc _) ?_;refine gd ?_ ?_<;>intro x3
    ·rw[←zrw G,←zwl x3]at V;refine gc (zhB m Z.1 s.Value Z.2.1 Z.2.2) ?_;refine yD tmE [⟨_,_⟩] ?_;refine gq ?_;refine yu (k+1) (hI:=yg)
    ·rw[←zrw G,←zwm x3]at V;refine gc (zaZ Z.1 Z.2.1 Z.2.2) ?_;refine yD tmE [⟨_,_⟩] ?_;refine gq ?_;refine yu (k+1) (hI:=yg)
  ·have x2:k=l.length:=by omega
   subst x2;apply bA;apply ye;refine yC ?_;refine kQ ?_;refine kM (kL (k:=13) rfl) ?_;refine yl ?_ ?_;all_goals(first|exact j9 tmsA N|exact j9 (AV.int .i64) hE)
def zfP(m:Mn)(l:List Sg)(mi:List Int)(hl:l.length<=1000)(v4:mi.length<=1000):Fn prog 137 [mnA m,sgsA l,yc mi] (.tup [tmsA (duV m l mi),iv (duE m l mi)]):=by
 have v3:=zdZ m l;refine kR func137 ntmps137 (λg w d=>?_);refine gc (zcd m l hl) ?_;refine gd ?_ ?_<;>intro U
 ·have hE:=zwo (mi:=mi) U;have J:=zkz hE U;apply ye;refine yC ?_;refine kQ ?_;refine kM (yd (ts:=[(6,tmsA []),(7,iv (ckD m l))]) (hs:=[])) ?_;refine yl ?_ ?_;all_goals(first|exact j9 tmsA J|exact j9 (AV.int .i64) hE)
 refine gd ?_ ?_<;>intro v2
 ·have hE:=zwp (mi:=mi) U (by omega);have J:=zkz hE (by decide);apply ye;refine yQ ?_;refine kQ ?_;refine kM (yd (ts:=[(6,tmsA []),(7,iv 2)]) (hs:=[])) ?_;refine yl ?_ ?_;all_goals(first|exact j9 tmsA J|exact j9 (AV.int .i64) hE)
 apply yk;apply yh;apply ye;refine yj ?_;apply kP;refine zW (λk=>[(1,sgsA l),(2,yc mi),(3,.ptr 3 0 0 0),(8,yc (prL m l)),(10,iv (k:Int))]) (λk=>[(3,.box (mnE m) 27)]) (λk=>k<=mi.length/\mnK mi k) mi.length (λk hk=>?_) (hJ:=by exact⟨by omega,zwn mi⟩) (h0:=yd);obtain⟨v1,xT⟩:=hk;refine gd ?_ ?_<;>intro v0
 ·have V:=@getX _ mi k (by omega);obtain⟨y,E,w9⟩:=V;apply yk;apply yh;apply kP;apply ye;iterate 5 refine ya ?_
  refine kU 5 ?_;refine yo ?_;iterate 5 refine kS ?_
  refine gf ?_ ?_<;>intro x4
  ·have hE:=zwq U (zmR E x4.1 x4.2);have J:=zkz hE (by decide);apply ye;refine yQ ?_;refine kQ ?_;refine kM (yd (ts:=[(6,tmsA []),(7,iv 2)]) (hs:=[])) ?_;refine yl ?_ ?_;all_goals(first|exact j9 tmsA J|exact j9 (AV.int .i64) hE)
  refine gq ?_;refine yu (k+1) (hJ:=by exact⟨by omega,zry xT E (by omega)⟩)
 ·have w2:k=mi.length:=by omega
  subst w2;have hok:mnOk mi=true:=zrz xT;have hE:=zwr U (by omega) hok;have J:=zws hE;have u4:[]=dvK m l (duM m l mi) 0:=by unfold dvK;rfl
  apply bA;apply ye;refine yj ?_;iterate 2 apply yh
  refine kT (yG tmE 61 2 11 11 rfl rfl) ?_;apply yf;refine yj ?_;apply kP;refine zm (λk=>[(1,sgsA l),(2,yc mi),(3,.ptr 3 0 0 0),(8,yc (prL m l)),(11,.own 11),(12,iv (k:Int))]) (λk=>[(3,.box (mnE m) 27),(11,.row tmE (dvK m l (duM m l mi) k) 61 2)]) l.length (λk hk=>?_);refine gd ?_ ?_<;>intro u3
  ·have V:=@getX _ l k (by omega);obtain⟨s,hs,u2⟩:=V;have v5:=zlB m l (duM m l mi) k;refine gd ?_ ?_<;>intro H
   ·have x3:=zlA (m:=m) (M:=duM m l mi) hs H;refine gq ?_;refine yu (k+1) (hI:=yg)
   have Z:=zb0 U hs H;refine gq ?_;refine yW [13,60,61,62,63,64,65,66,67,68,69] [0,0,0,6,14,30,63,127,255,255,0,1535,4095] mo ?_;(iterate 6 refine yb ?_);refine yO (zy Z.1 Z.2.1 Z.2.2) ?_;(iterate 3 refine yb ?_);refine ChM.step rfl rfl rfl (zp (k:=13) zc61) rfl ?_;refine zbS 9 ⟨[(1,sgsA l),(2,yc mi),(3,.ptr 3 0 0 0),(8,yc (prL m l)),(11,.own 11),(12,iv (k:Int)),(13,.ptr 13 0 0 0)],[(3,.box (mnE m) 27),(11,.row tmE (dvK m l (duM m l mi) k) 61 2),(13,.box (tmE (yw m s.Value)) 61)]⟩ (λQ hQ=>?_) (λQ hQ=>?_) ?_
   ·refine kV ?_;refine ya ?_;exact bF yg hQ
   ·refine kV ?_;(iterate 2 refine ya ?_);exact bF yg hQ
   apply kW;refine zF ⟨[(1,sgsA l),(2,yc mi),(3,.ptr 3 0 0 0),(8,yc (prL m l)),(11,.own 11),(12,iv (k:Int)),(13,.ptr 13 0 0 0)],[(3,.box (mnE m) 27),(11,.row tmE (dvK m l (duM m l mi) k) 61 2),(13,.box (tmE (bsT m s)) 61)]⟩ (λT=>?_) ?_
   ·refine gc (zA _) ?_;refine gd ?_ ?_<;>intro x2
    ·have v9:tmE (durT m s.Value)=tmE (bsT m s):=j9 tmE (zwl x2);refine yW [75,76,77,78,79,80] [0,0,0,6,14,30,63,127] mo ?_;(iterate 6 refine yb ?_);refine yI ?_;refine yR (zdf m Z.1 s.Value Z.2.1 Z.2.2) ?_;refine kV ?_;apply kW;exact kT yg T
    ·have v9:tmE (yw m s.Value)=tmE (bsT m s):=j9 tmE (zwm x2);apply yk;exact kT yg T
   apply yh;apply ye;refine yj ?_;apply kP;have u1:tmE (bsT m s)=tmE (refT (prL m l) mi (k:Int) (bsT m s) 0):=j9 tmE (zyd _ _ _ _);refine zm (λj=>[(1,sgsA l),(2,yc mi),(3,.ptr 3 0 0 0),(8,yc (prL m l)),(11,.own 11),(12,iv (k:Int)),(13,.ptr 13 0 0 0),(15,iv (j:Int))]) (λj=>[(3,.box (mnE m) 27),(11,.row tmE (dvK m l (duM m l mi) k) 61 2),(13,.box (tmE (refT (prL m l) mi (k:Int) (bsT m s) j)) 61)]) ((prL m l).length) (λj hk=>?_);refine gd ?_ ?_<;>intro k9
   ·have V:=@getX _ (prL m l) j (by omega);obtain⟨x,hx,k8⟩:=V;have k7:=zrA hx;have V:=@getX _ mi j (by omega);obtain⟨y,E,w9⟩:=V;apply yk;apply yh;(iterate 2 apply kP);apply ye;(iterate 5 refine ya ?_);refine kU 5 ?_;refine yo ?_;(iterate 6 refine kS ?_);refine gf ?_ ?_<;>intro G
    ·have x1:tmE ⟨3,2⟩=tmE (refT (prL m l) mi (k:Int) (bsT m s) (j+1)):=j9 tmE (zya hx E G);refine gq ?_;refine yu (j+1) (hI:=yg)
    ·apply ye;(iterate 5 refine ya ?_);refine kU 5 ?_;refine yo ?_;(iterate 7 refine kS ?_);refine gf ?_ ?_<;>intro N
     ·have x1:tmE ⟨1,2⟩=tmE (refT (prL m l) mi (k:Int) (bsT m s) (j+1)):=j9 tmE (zyb hx E G N);refine gq ?_;refine yu (j+1) (hI:=yg)
     ·have x1:tmE (refT (prL m l) mi (k:Int) (bsT m s) j)=tmE (refT (prL m l) mi (k:Int) (bsT m s) (j+1)):=j9 tmE (zyc hx E G N);refine gq ?_;refine yu (j+1) (hI:=yg)
   ·have v8:j=(prL m l).length:=by omega
    subst v8;have x3:dvK m l (duM m l mi) k++[refT (prL m l) mi (k:Int) (bsT m s) (prL m l).length]=dvK m l (duM m l mi) (k+1):=by rw[zky _ _ _ _ _ (jE _)];exact znK hs H
    refine gq ?_;refine yD tmE [⟨_,_⟩] ?_;refine gq ?_;refine yu (k+1) (hI:=yg)
  ·have x0:k=l.length:=by omega
   subst x0;apply bA;apply ye;refine yC ?_;refine kQ ?_;refine kM (kL (k:=11) rfl) ?_;refine yl ?_ ?_;all_goals(first|exact j9 tmsA J|exact j9 (AV.int .i64) hE)
end
section
structure Ite where
 Sign:Int
 Value:Int
 Rest:Bool
 Color:Bool
 Fixed:Bool
 Cut:Int
 Dur:Tm
 Before:Tm
 After:Tm
 deriving DecidableEq
instance:Inhabited Ite:=⟨⟨0,0,false,false,false,0,⟨0,0⟩,⟨0,0⟩,⟨0,0⟩⟩⟩
def itE:Ite->List AV:=λx=>[.int .i64 x.Sign,.int .i64 x.Value,.bool x.Rest,.bool x.Color,.bool x.Fixed,.int .i64 x.Cut,.int .i64 x.Dur.N,.int .i64 x.Dur.D,.int .i64 x.Before.N,.int .i64 x.Before.D,.int .i64 x.After.N,.int .i64 x.After.D]
abbrev itA(x:Ite):AV:=.agg (itE x)
abbrev itsA(l:List Ite):AV:=.sl itE l
instance:EncK itE 12:=⟨λ_=>rfl⟩
def ntN(l:List Sg):Nat->Nat
 |0=>0
 |k+1=>match l[k]? with
  |some s=>if s.Kind=3 then ntN l k else ntN l k+1
  |none=>ntN l k
def ztd{l:List Sg}{k:Nat}{s:Sg}(hs:l[k]? =some s)(h:s.Kind=3):ntN l (k+1)=ntN l k:=by
 simp_all[ntN]
theorem zk6{l:List Sg}{k:Nat}{s:Sg}(hs:l[k]? =some s)(h:¬s.Kind=3):ntN l (k+1)=ntN l k+1:=by
 simp_all[ntN]
theorem zmg(l:List Sg)(k:Nat):ntN l k<=ntN l (k+1)/\ntN l (k+1)<=ntN l k+1:=by
 grind[ntN]
def zgq(l:List Sg):∀(n k:Nat),k<=n->ntN l k<=ntN l n
 |0,k,h=>by simp_all
 |n+1,k,h=>by
  rcases wD n k with h1|h1
  ·grind
  ·have:=zgq l n k h1
   grind[zmg]
def zk7(l:List Sg):∀k,ntN l k<=k
 |0=>jE _
 |k+1=>by have:=zk7 l k;grind[zmg]
theorem zk8(ch:List Int)(l:List Sg):∀k,(mkK ch l k).1.length=ntN l k
 |0=>rfl
 |k+1=>by
  have h:=zk8 ch l k
  grind[mkK,ntN]
theorem zqw(m:Mn)(l:List Sg)(M:List (Int×Tm)):∀k,(dvK m l M k).length=ntN l k
 |0=>rfl
 |k+1=>by
  have h:=zqw m l M k
  grind[dvK,ntN]
def zk9{m:Mn}{l:List Sg}{M:List (Int×Tm)}{k:Nat}{s:Sg}(hs:l[k]? =some s)(h:¬s.Kind=3):∀n,k<n->(dvK m l M n)[ntN l k]? =some ((mget (k:Int) M).getD (bsT m s))
 |0,hn=>by omega
 |n+1,hn=>by
  rcases wD k n with h1|h1
  ·have ih:=zk9 (m:=m) (M:=M) hs h n h1;have Z:ntN l k<(dvK m l M n).length:=(j5.1 ih).1;cases V:l[n]? with
   |none=>simp only[dvK,V];exact ih
   |some z=>
    by_cases U:z.Kind=3
    ·rw[←zlA V U];exact ih
    ·rw[←znK V U,wS Z];exact ih
  grind[zqw,dvK]
def itOf(k:Nat)(s:Sg)(c:Int)(a:Bool)(d:Tm):Ite:=
 ⟨k,s.Value,decide (s.Kind=2),clr s,a||decide (s.Kind=2)||clr s||decide (c=s.Value),c,if a=true then mulV d ⟨3,2⟩else d,⟨0,1⟩,⟨0,1⟩⟩
def itK(l:List Sg)(c:List Int)(a:List Bool)(d:List Tm):Nat->List Ite
 |0=>[]
 |k+1=>match l[k]? with
  |some s=>if s.Kind=3 then itK l c a d k else itK l c a d k++[itOf k s (c.getD (ntN l k) 0) (a.getD (ntN l k) false) (d.getD (ntN l k) ⟨0,0⟩)]
  |none=>itK l c a d k
section
variable{l:List Sg}{c:List Int}{a:List Bool}{d:List Tm}{k:Nat}{s:Sg}
def zla(hs:l[k]? =some s)(h:s.Kind=3):itK l c a d k=itK l c a d (k+1):=by
 simp_all[itK]
def zqx{x:Int}{y:Bool}{z:Tm}(hs:l[k]? =some s)(h:¬s.Kind=3)(hx:c[ntN l k]? =some x)(Z:a[ntN l k]? =some y)(V:d[ntN l k]? =some z):itK l c a d k++[itOf k s x y z]=itK l c a d (k+1):=by
 simp_all[itK]
end
def zv1(l:List Sg)(c:List Int)(a:List Bool)(d:List Tm):[]=itK l c a d 0:=rfl
def zfQ(l:List Sg)(c:List Int)(a:List Bool)(d:List Tm):∀k,(itK l c a d k).length=ntN l k
 |0=>rfl
 |k+1=>by
  have h:=zfQ l c a d k
  grind[itK,ntN]
def zv2(m:Mn)(v:Int):Bool:=decide (mulE (yw m v) ⟨3,2⟩=0)&&decide (mulE (durT m v) ⟨3,2⟩=0)
theorem zpV:zdc zv2=true:=by kernel_rfl
def zxh{m:Mn}{v:Int}(hm:ckM m=0)(h1:1<=v)(Z:v<=8):mulE (yw m v) ⟨3,2⟩=0/\mulE (durT m v) ⟨3,2⟩=0:=by
 grind[zab,zpV,zv2]
def zte{m:Mn}{s:Sg}(hm:ckM m=0)(h1:1<=s.Value)(Z:s.Value<=8):mulE (bsT m s) ⟨3,2⟩=0:=by
 unfold bsT;split;all_goals simp_all[zxh]
theorem zdO(p mi:List Int)(q:Int):∀k x,mget q (zaE p mi k)=some x->x=⟨3,2⟩\/x=⟨1,2⟩
 |0,x,h=>by simp[zaE,zmQ]at h
 |k+1,x,h=>by
  unfold zaE at h;split at h
  ·rw[zaq,zaq]at h;split at h
   ·simp_all
   ·split at h
    ·simp_all
    ·exact zdO p mi q k x h
  ·exact zdO p mi q k x h
def zqy{m:Mn}{l:List Sg}{mi:List Int}{q:Int}{s:Sg}(hm:ckM m=0)(h1:1<=s.Value)(Z:s.Value<=8):mulE ((mget q (duM m l mi)).getD (bsT m s)) ⟨3,2⟩=0:=by
 cases h:mget q (duM m l mi)with
 |none=>exact zte hm h1 Z
 |some x=>
  rcases zdO _ _ _ _ _ h with rfl|rfl
  ·show mulE ⟨3,2⟩ ⟨3,2⟩=0;decide+kernel
  ·show mulE ⟨1,2⟩ ⟨3,2⟩=0;decide+kernel
def itmE(m:Mn)(l:List Sg)(ch mi:List Int):Int:=if mkE m l ch=0 then duE m l mi else mkE m l ch
def itmV(m:Mn)(l:List Sg)(ch mi:List Int):List Ite:=if itmE m l ch mi=0 then itK l (mkC m l ch) (mkA m l ch) (duV m l mi) l.length else[]
theorem znr{m:Mn}{l:List Sg}{ch:List Int}(h:¬ckD m l=0):mkE m l ch=ckD m l:=by unfold mkE;rw[j7 h]
def zfR{m:Mn}{l:List Sg}{ch:List Int}(h:mkE m l ch=0):ckD m l=0:=by
 grind[znr]
def zns{m:Mn}{l:List Sg}{ch mi:List Int}(h:¬mkE m l ch=0):itmE m l ch mi=mkE m l ch:=by unfold itmE;rw[j7 h]
def zlb{m:Mn}{l:List Sg}{ch mi:List Int}(h:mkE m l ch=0):itmE m l ch mi=duE m l mi:=by unfold itmE;rw[j6 h]
def ziF{m:Mn}{l:List Sg}{ch mi:List Int}(h:¬itmE m l ch mi=0):itmV m l ch mi=[]:=by unfold itmV;rw[j7 h]
def zhf{m:Mn}{l:List Sg}{ch mi:List Int}(h:itmE m l ch mi=0):itmV m l ch mi=itK l (mkC m l ch) (mkA m l ch) (duV m l mi) l.length:=by unfold itmV;rw[j6 h]
def zv3{m:Mn}{l:List Sg}{ch mi:List Int}{k:Nat}{s:Sg}(h1:mkE m l ch=0)(V:duE m l mi=0)(hs:l[k]? =some s)(h:¬s.Kind=3):
 ∃x y z,(mkC m l ch)[ntN l k]? =some x/\(mkA m l ch)[ntN l k]? =some y/\(duV m l mi)[ntN l k]? =some z/\mulE z ⟨3,2⟩=0/\ntN l k<ntN l l.length/\ckM m=0/\1<=s.Value/\s.Value<=8/\(z=bsT m s\/z=⟨3,2⟩\/z=⟨1,2⟩):=by
 have hk:k<l.length:=(j5.1 hs).1
 have Z:ntN l k<ntN l l.length:=by
  have:=zgq l l.length (k+1) hk
  grind[zk6]
 obtain⟨hm,v1,v8⟩:=zb0 (zfR h1) hs h;have c1:(mkC m l ch).length=ntN l l.length:=by simp_all[mkC,zk8]
 have c2:(mkA m l ch).length=ntN l l.length:=by grind[mkA,ze5,zk8]
 refine⟨_,_,_,lgg (by omega),lgg (by omega),?_,zqy (l:=l) (mi:=mi) (q:=(k:Int)) (s:=s) hm v1 v8,Z,hm,v1,v8,?_⟩
 ·simp_all[duV,zk9]
 ·cases U:mget (k:Int) (duM m l mi)<;>grind[duM,zdO]
def zoj{m:Mn}{l:List Sg}(h:ckD m l=0){k:Nat}{s:Sg}(hs:l[k]? =some s)(Z:¬s.Kind=3):s.Kind=1\/s.Kind=2:=by
 have hk:k<l.length:=(j5.1 hs).1;have V:=(zax (ziE h) (k+1) (by omega)).2 k s (by omega) hs;simp_all[sgF];omega
def zxi{s:Sg}(h:s.Kind=1\/s.Kind=2):(s.Color&&!decide (s.Kind=2))=(decide (s.Kind=1)&&s.Color):=by
 all_goals grind
section
variable{k:Nat}{s:Sg}{x:Int}{y:Bool}{z:Tm}
def itL(k:Nat)(s:Sg)(f:Bool)(x:Int)(z:Tm):Ite:=⟨k,s.Value,decide (s.Kind=2),decide (s.Kind=1)&&s.Color,f,x,z,⟨0,1⟩,⟨0,1⟩⟩
def zAb(Z:s.Kind=1\/s.Kind=2):itL k s (decide (s.Kind=2)||(decide (s.Kind=1)&&s.Color)||y||decide (x=s.Value)) x (if y=true then mulV z ⟨3,2⟩else z)=itOf k s x y z:=by
 grind[itL,itOf,clr]
def zAc(Z:y=true):itL k s true x (mulV z ⟨3,2⟩)=itOf k s x y z:=by subst Z;rfl
def zqz(Z:y=false)(h:s.Kind=2\/clr s=true\/x=s.Value):itL k s true x z=itOf k s x y z:=by
 grind[clr,itOf,itL]
def zAd(Z:y=false)(h1:¬s.Kind=2)(V:clr s=false)(U:¬x=s.Value):itL k s false x z=itOf k s x y z:=by
 simp_all[clr,itOf,itL]
end
end
section
def tfx(t:Tm)(l:List Tm):Int:=if l.findIdx (λu=>decide (t=u))<l.length then(l.findIdx (λu=>decide (t=u)):Int)else-1
def ztf{t:Tm}{l:List Tm}{k:Nat}{v:Tm}(hv:l[k]? =some v)(Z:t=v)(hJ:∀i u,i<k->l[i]? =some u->¬t=u):tfx t l=k:=by
 have hk:k<l.length:=(j5.1 hv).1;have V:l[k]=v:=(j5.1 hv).2;have:l.findIdx (λu=>decide (t=u))=k:=(List.findIdx_eq hk).2 ⟨by rw[V];simpa using Z,λj U=>by simpa using hJ j _ U (lgg (by omega))⟩;unfold tfx;rw[this,j6 hk]
def zqA{t:Tm}{l:List Tm}(hJ:∀i u,i<l.length->l[i]? =some u->¬t=u):tfx t l=-1:=by
 have:l.findIdx (λu=>decide (t=u))=l.length:=uP.2 λx hx=>by
  obtain⟨i,hi⟩:=jQ.1 hx;simpa using hJ i x (j5.1 hi).1 hi
 unfold tfx;rw[j7 (by omega)]
def ztg(t:Tm)(l:List Tm):decide (0<=tfx t l)=decide (t∈l):=by
 by_cases h:t∈l
 ·have:l.findIdx (λu=>decide (t=u))<l.length:=List.findIdx_lt_length_of_exists ⟨t,h,by simp⟩;simp only[tfx,j6 this,h];simp
 ·have V:l.findIdx (λu=>decide (t=u))=l.length:=uP.2 λu Z=>jH λe=>h (e▸Z)
  have:¬l.findIdx (λu=>decide (t=u))<l.length:=by omega
  simp only[tfx,j7 this,h];simp
def zfS{α:Type}{l:List α}{j:Nat}{x:α}(h:l[j]? =some x):l.take j++[x]=l.take (j+1):=by
 rw[jG,h];rfl
def zkd(m:Mn):(perfL m).length<=4:=by
 unfold perfL;refine jT (wZ _ _) ?_;simp
attribute [local irreducible] tfx perfL
def zbB(l:List Tm)(t:Tm)(hl:l.length<=4000000000):Fn prog 186 [tmsA l,tmA t] (iv (tfx t l)):=by
 refine kR func186 ntmps186 (λg w d=>?_);apply ye;refine zz ?_;refine yj ?_;apply yh;apply ye;refine yC ?_;apply kP;refine zW (λk=>[(0,tmsA l),(3,.ptr 3 0 0 0),(7,iv l.length),(8,iv (k:Int))]) (λk=>[(3,.box (tmE t) 61)]) (λk=>k<=l.length/\∀i u,i<k->l[i]? =some u->¬t=u) l.length (λk hk=>?_) (hJ:=by exact⟨by omega,λi u h=>absurd h (u0 i)⟩) (h0:=yd);obtain⟨N,Z⟩:=hk;refine gd ?_ ?_<;>intro J
 ·have T:=@getX _ l k (by omega);obtain⟨v,hv,H⟩:=T;refine gq ?_;refine yW [11,12,13,14,15,16] [0,0,0,6,14,31] mo ?_;iterate 6 refine yb ?_
  refine yI ?_;refine gd ?_ ?_<;>intro V
  ·refine gq ?_;all_goals(congr 1;exact(ztf hv V Z).symm)
  refine gq ?_
  refine yu (k+1) (hJ:=by
   refine⟨by omega,λi u hi U=>?_⟩;rcases wG.1 hi with h|h
   ·exact Z i u h U
   ·subst h;rw[hv]at U;injection U with U;subst U;exact V)
 ·refine gq ?_;all_goals(congr 1;exact(zqA (λi u hi=>Z i u (by omega))).symm)
def zq(l:List Tm)(t:Tm)(hl:l.length<=4000000000):Fn prog 126 [tmsA l,tmA t] (.bool (decide (t∈l))):=by
 refine kR func126 ntmps126 (λg w d=>?_);refine gc (zbB l t hl) ?_;all_goals(congr 1;exact ztg t l)
def zbC(a b:List Tm)(hl:a.length<=4000000000):Fn prog 67 [tmsA a,tmsA b] (.bool (decide (a=b))):=by
 refine kR func67 ntmps67 (λg w d=>?_);refine gd ?_ ?_<;>intro H
 ·have U:decide (a=b)=false:=by rw[w5];intro h;subst h;exact H rfl
  refine gq ?_;all_goals rw[U]
 have T:a.length=b.length:=by omega
 apply yk;apply yh;apply ye;refine yC ?_;apply kP;refine zW (λk=>[(0,tmsA a),(1,tmsA b),(12,iv a.length),(13,iv (k:Int))]) (λk=>[]) (λk=>k<=a.length/\a.take k=b.take k) a.length (λk hk=>?_) (hJ:=by exact⟨by omega,by simp⟩) (h0:=yd);obtain⟨G,Z⟩:=hk;refine gd ?_ ?_<;>intro E
 ·have V:=@getX _ a k (by omega);obtain⟨x,hx,xT⟩:=V;have V:=@getX _ b k (by omega);obtain⟨y,N,x4⟩:=V;refine gq ?_;refine yW [16,17,18,19,20,21,22,23,24] [0,0,3,7,0,0,48,112,255] mo ?_;iterate 9 refine yb ?_
  refine yI ?_;refine gd ?_ ?_<;>intro J
  ·have U:decide (a=b)=false:=by rw[w5];intro h;subst h;rw[hx]at N;injection N with N;exact J N
   refine gq ?_;all_goals rw[U]
  refine gq ?_;refine yu (k+1) (hJ:=by exact⟨by omega,by rw[←zfS hx,←zfS N,Z,J]⟩)
 ·have U:decide (a=b)=true:=by
   have h1:k=a.length:=by omega
   rw[jZ];subst h1;rw[jK,T,jK]at Z;exact Z
  refine gq ?_;all_goals rw[U]
def zac(l:List Ite)(hl:l.length<=4000000):FnO prog 107 [itsA l] [] [] (.own 5) [(5,.row itE l 129 12)]:=by
 refine bP (ts:=[(0,itsA l)]) (rv:=[.tmp 2]) (n:=8) (cs:=[]) (by kernel_rfl) func107 rfl ntmps107 rfl rfl (by simp) rfl rfl rfl rfl (λg w d vs=>?_);apply ye;refine yj ?_;apply yh;apply ye;refine ya ?_;refine Ex.eqNil rfl zhT rfl (λb U=>?_);refine gd ?_ ?_<;>intro Z
 ·have V:=U Z;subst V;subst Z;apply ye;refine yj ?_;refine kQ ?_;refine zpx.imp (yG itE 129 12 2 5 rfl rfl) ?_;refine zpx.mk (ts:=[(2,.own 5)]) (.inr rfl) (yd) (.one (.tmp rfl (kO rfl)))
 refine gq ?_;refine yD itE [] ?_;refine ya ?_;refine kV ?_;refine yj ?_;refine kQ ?_;refine zpx.mk (ts:=[(2,.own 5)]) (.inr rfl) (yd) (.one (.tmp rfl (kO rfl)))
def zcG(m:Mn):Fn prog 220 [.nils,.fn 221 [.ept (λ_:Unit=>mnE m) () 0]] (yc (perfL m)):=by
 have T:=zkd m;refine kR func220 ntmps220 (λg w d=>?_);apply ye;refine ze0 ?_;refine yj ?_;iterate 2 apply yh
 refine kT (zbo intE 3 1 2 39 22 rfl rfl) ?_;apply yf;refine yj ?_;apply kP;have N:[]=(perfL m).take 0:=by simp
 have V:(perfL m).take (zfF m).length=perfL m:=by unfold zfF;rw[jS,jK]
 refine X.range (sl:=[2]) (λj=>([.ptr 2 0 0 0],[(2,.box [.own 39] 22),(39,.row intE ((perfL m).take j) 3 1)])) (λj=>True) 900001 900002 rfl rfl (by decide) (λj zs Z=>by obtain⟨i,_,rfl⟩:=zcC Z;rfl) (zdD m) trivial rfl rfl (by decide) (wK _) (by simp) (λj zs Z=>by obtain⟨i,_,rfl⟩:=zcC Z;rfl) (λ_=>rfl) rfl rfl (λl o us=>yd) (trivial) (λj zs Z hJ l ready busy rb vs g w E J=>?_) (λhJ=>?_)
 ·have U:=zcC Z;obtain⟨i,hi,rfl⟩:=U;have H:=zfS hi;have G:((perfL m).take j).length<=1000:=by simp;omega
  apply yf;refine yj ?_;refine⟨rfl,rfl,?_⟩;refine gq ?_;refine yD intE [_] ?_;iterate 2 refine kV ?_
  apply kW;refine⟨[.ptr 2 0 0 0],[(2,.box [.own 39] 22),(39,.row intE ((perfL m).take (j+1)) 3 1)],yd,rfl,trivial⟩
 apply ye;refine yQ ?_;refine kQ ?_;refine kM (kL (k:=39) rfl) ?_;refine gq ?_;all_goals(first|exact j9 yc V|rfl)
def zep(m:Mn):Fn prog 157 [.fn 221 [.ept (λ_:Unit=>mnE m) () 0]] (yc (perfL m)):=by
 refine kR func157 ntmps157 (λg w d=>?_);refine gc (zcG m) ?_;all_goals exact zR
def zdl(m:Mn):Fn prog 104 [mnA m] (.tup [yc (if ckM m=0 then perfL m else[]),iv (ckM m)]):=by
 refine kR func104 ntmps104 (λg w d=>?_);refine gc (zaw m) ?_;refine gd ?_ ?_<;>intro Z
 ·apply ye;refine yC ?_;refine kQ ?_;refine kM (yd (ts:=[(2,yc []),(3,iv (ckM m))]) (hs:=[])) ?_;refine yl ?_ ?_;all_goals(first|(rw[j7 Z];done)|rfl)
 refine gq ?_;refine yR (zew m) ?_;refine gc (zep m) ?_;refine yl ?_ ?_;all_goals(first|(rw[j6 Z];done)|exact j9 (AV.int .i64) Z.symm)
end
section
def rtsE(n q m c:Int):Int:=if(0<n/gI n c/\1099511627776/(n/gI n c)<m/gI m q)\/1048576<q/gI m q*(c/gI n c)then 4 else 0
def rtsV(n q m c:Int):Tm:=if rtsE n q m c=0 then⟨n/gI n c*(m/gI m q),q/gI m q*(c/gI n c)⟩else tmZ
def rmE(a b:Tm):Int:=if yM [a,b]=0 then rtsE a.N a.D b.N b.D else yM [a,b]
def rmV(a b:Tm):Tm:=if yM [a,b]=0 then rtsV a.N a.D b.N b.D else tmZ
attribute [local irreducible] gI
def y4(a b:Tm):Fn prog 59 [tmA a,tmA b] (.tup [tmA (addV a b),iv (addE a b)]):=by
 refine kR func59 ntmps59 (λg w d=>?_);refine gc (z6 a b) ?_;refine gd ?_ ?_<;>intro Z
 ·have hE:addE a b=yM [a,b]:=by unfold addE;rw[j7 Z]
  have U:addV a b=tmZ:=by unfold addV;rw[j7 Z]
  refine gq ?_;refine yx ty61 ?_ ?_;all_goals(first|exact zE hE|exact zE U)
 have V:=zbZ Z;have b1:=zM V.1;have b2:=zM V.2;have m1:=mulB b1.1 b1.2.1 b2.2.2.1 b2.2.2.2.1;have m2:=mulB b2.1 b2.2.1 b1.2.2.1 b1.2.2.2.1;have m3:=mulB b1.2.2.1 b1.2.2.2.1 b2.2.2.1 b2.2.2.2.1;have m4:=mulP b1.2.2.2.2.1 b2.2.2.2.2.1;have hE:addE a b=tmkE (a.N*b.D+b.N*a.D) (a.D*b.D):=by unfold addE;rw[j6 Z]
 have U:addV a b=tmkT (a.N*b.D+b.N*a.D) (a.D*b.D):=by unfold addV;rw[j6 Z]
 refine gc (zb4 (a.N*b.D+b.N*a.D) (a.D*b.D) (by omega) (by omega) (by omega) (by omega)) ?_;refine yx ty61 ?_ ?_;all_goals(first|exact zE hE|exact zE U)
def zcl(n q m c:Int)(n0:0<=n)(n1:n<=1099511627776)(q0:1<=q)(q1:q<=1048576)(m0:0<=m)(m1:m<=1099511627776)(c0:1<=c)(c1:c<=1099511627776):Fn prog 205 [iv n,iv q,iv m,iv c] (.tup [tmA (rtsV n q m c),iv (rtsE n q m c)]):=by
 have U:=zbY (n:=n) (d:=c) (by omega);have T:=zbY (n:=m) (d:=q) (by omega);have n2:=uA n0 (uN U);have n3:=u5 (gI n c) n0;have c2:=uA (show 0<=c by omega) (uN U);have c3:=u5 (gI n c) (show 0<=c by omega);have m2:=uA m0 (uN T);have m3:=u5 (gI m q) m0;have q2:=uA (show 0<=q by omega) (uN T);have q3:=u5 (gI m q) (show 0<=q by omega);have mB:=mulB q2 (show q/gI m q<=1048576 by omega) c2 (show c/gI n c<=1099511627776 by omega);refine kR func205 ntmps205 (λg w d=>?_);refine gc (zaL n c (by omega) (by omega) (by omega) (by omega)) ?_;refine yR (zaL m q (by omega) (by omega) (by omega) (by omega)) ?_;iterate 2 refine ya ?_
 apply yE;iterate 4 refine ya ?_
 apply yE;iterate 4 refine ya ?_
 apply yE;iterate 4 refine ya ?_
 apply yE;refine ya ?_;refine yC ?_;apply yh;apply ye;iterate 2 refine ya ?_
 refine kU 2 ?_;refine yo ?_;iterate 4 refine kS ?_
 iterate 2 refine yo ?_
 iterate 4 refine kS ?_
 refine gf ?_ ?_<;>intro Z
 ·have hE:rtsE n q m c=4:=by unfold rtsE;rw[j6 Z]
  have V:rtsV n q m c=tmZ:=by unfold rtsV;rw[j7 (by omega)]
  refine gq ?_;refine yx ty61 ?_ ?_;all_goals(first|exact zE hE|exact zE V)
 have hE:rtsE n q m c=0:=by unfold rtsE;rw[j7 (λh=>by omega)]
 have V:rtsV n q m c=⟨n/gI n c*(m/gI m q),q/gI m q*(c/gI n c)⟩:=by unfold rtsV;rw[j6 hE]
 have hnm:0<=n/gI n c*(m/gI m q)/\n/gI n c*(m/gI m q)<=1099511627776:=by
  refine⟨vQ n2 m2,?_⟩;by_cases N:0<n/gI n c
  ·exact zfe N (by decide) (by omega)
  ·rw[show n/gI n c=0 by omega,Int.zero_mul];decide
 refine gq ?_;refine yx ty61 ?_ ?_;all_goals(first|exact zE hE|exact zE V)
def zgr(a b:Tm):Fn prog 138 [tmA a,tmA b] (.tup [tmA (rmV a b),iv (rmE a b)]):=by
 refine kR func138 ntmps138 (λg w d=>?_);refine gc (z6 a b) ?_;refine gd ?_ ?_<;>intro Z
 ·have hE:rmE a b=yM [a,b]:=by unfold rmE;rw[j7 Z]
  have U:rmV a b=tmZ:=by unfold rmV;rw[j7 Z]
  refine gq ?_;refine yx ty61 ?_ ?_;all_goals(first|exact zE hE|exact zE U)
 have V:=zbZ Z;have b1:=zM V.1;have b2:=zM V.2;have hE:rmE a b=rtsE a.N a.D b.N b.D:=by unfold rmE;rw[j6 Z]
 have U:rmV a b=rtsV a.N a.D b.N b.D:=by unfold rmV;rw[j6 Z]
 refine gc (zcl a.N a.D b.N b.D (by omega) (by omega) (by omega) (by omega) (by omega) (by omega) (by omega) (by omega)) ?_;refine yx ty61 ?_ ?_;all_goals(first|exact zE hE|exact zE U)
end
end Go.Rse
