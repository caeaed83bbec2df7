/-
  Walks.
-/
import Derived.Test.YtbopkhoalndflaaGreatDoorYJRef9
set_option linter.all false
namespace Go.Rse
open Go Go.Proofs Go.Proofs.Tryz
section
attribute [local irreducible] Pur yA yC Ex X Fn Imp LeV LeB FnO It yH
def zmE:mpOk prog 278 3 83:=⟨by kernel_rfl,_,Tryz.underlying3⟩
def zkq:∃d,prog.underlying 3=some (.int d)/\d=.i64:=⟨_,Tryz.underlying3,rfl⟩
attribute [local irreducible] zaB zN zaq zao ckD prL twos zbN refT dvK mget mput bsT duE duV yx durT clr
set_option maxHeartbeats 2000000 in
def zkr(m:Mn)(l:List Sg)(mi:List Int)(hl:l.length<=1000)(x1:mi.length<=1000):Fn prog 189 [mnA m,sgsA l,yc mi] (.tup [tmsA (duV m l mi),iv (duE m l mi)]):=by
 have x0:=ze8 m l;have w2:[]=zbN (prL m l) mi 0:=by unfold zbN;rfl
 refine kF func189 ntmps189 (λg w d=>?_);refine gq ?_;refine zV [(39,39)] (zez m l hl) ?_;refine gd ?_ ?_<;>intro U
 ·have hE:=zuM (mi:=mi) U;have T:=zjW hE U;apply ye;refine yE ?_;refine kE ?_;refine kA (yd (ts:=[(6,tmsA []),(7,iv (ckD m l))]) (hs:=[])) ?_;refine ym ?_ ?_;all_goals(first|exact j5 tmsA T|exact j5 (AV.int .i64) hE)
 apply yk;iterate 2 apply yf
 refine kJ (k9 (k:=39) rfl) ?_;refine gd ?_ ?_<;>intro v9
 ·have hE:=zuN (mi:=mi) U (by omega);have T:=zjW hE (by decide);apply ye;refine yO ?_;refine kE ?_;refine kA (yd (ts:=[(6,tmsA []),(7,iv 2)]) (hs:=[])) ?_;refine ym ?_ ?_;all_goals(first|exact j5 tmsA T|exact j5 (AV.int .i64) hE)
 refine gq ?_;refine kT (zhl (k:=32) (λi:Int=>iv i) tmA) rfl rfl ?_;refine yh ?_;apply yf;apply ye;refine yE ?_;apply kB;refine zM (λk=>[(1,sgsA l),(2,yc mi),(3,.ptr 3 0 0 0),(10,.mp 32),(33,yc (prL m l)),(34,iv (prL m l).length),(35,iv (k:Int))]) (λk=>[(3,.box (mnE m) 23),(32,.mpb (λi:Int=>iv i) tmA (zbN (prL m l) mi k))]) (λk=>k<=(prL m l).length/\mnK mi k) ((prL m l).length) (λk hk=>?_) (hJ:=by exact⟨by omega,zuL mi⟩);obtain⟨v8,Q⟩:=hk;refine gd ?_ ?_<;>intro v5
 ·obtain⟨x,hx⟩:∃x,(prL m l)[k]? =some x:=⟨_,lgg (by omega)⟩;have v4:(prL m l)[(k:Int).toNat]? =some x:=by simpa using hx
  have v3:=zqv hx;obtain⟨y,I⟩:∃y,mi[k]? =some y:=⟨_,lgg (by omega)⟩;have v1:mi[(k:Int).toNat]? =some y:=by simpa using I
  refine gd ?_ ?_<;>intro H
  ·have x4:=zo1 (p:=prL m l) I H;refine gq ?_;refine yz (k+1) (hJ:=by exact⟨by omega,zqt Q I (by omega)⟩) (hI:=yi)
  ·refine gd ?_ ?_<;>intro G
   ·have x4:=zo0 hx I G;refine gq ?_;refine zaf (zeX (venc:=tmA) ⟨3,2⟩ rfl rfl rfl rfl rfl zmE zkq (λ_ _=>rfl)) ?_;refine zaf (zeX (venc:=tmA) ⟨1,2⟩ rfl rfl rfl rfl rfl zmE zkq (λ_ _=>rfl)) ?_;refine gq ?_;refine yz (k+1) (hJ:=by exact⟨by omega,zqt Q I (by omega)⟩) (hI:=yi)
   ·have hE:=zuO U (zl6 I H G);have T:=zjW hE (by decide);apply ye;refine yO ?_;refine kE ?_;refine kA (yd (ts:=[(6,tmsA []),(7,iv 2)]) (hs:=[])) ?_;refine ym ?_ ?_;all_goals(first|exact j5 tmsA T|exact j5 (AV.int .i64) hE)
 ·have x3:k=(prL m l).length:=by omega
  subst x3;have hok:mnOk mi=true:=zqu (by rw[show mi.length=(prL m l).length by omega];exact Q);have hE:=zuP U (by omega) hok;have T:=zuQ hE;have v0:[]=dvK m l (duM m l mi) 0:=by unfold dvK;rfl
  apply kO;apply ye;refine yh ?_;iterate 2 apply yf
  refine kJ (yI tmE 83 2 13 13 rfl rfl) ?_;apply yj;refine yE ?_;apply kB;refine zu (λk=>[(3,.ptr 3 0 0 0),(10,.mp 32),(13,.own 13),(56,sgsA l),(57,iv l.length),(58,iv (k:Int))]) (λk=>[(3,.box (mnE m) 23),(32,.mpb (λi:Int=>iv i) tmA (duM m l mi)),(13,.row tmE (dvK m l (duM m l mi) k) 83 2)]) l.length (λk hk=>?_);refine gd ?_ ?_<;>intro u4
  ·obtain⟨s,hs⟩:∃s,l[k]? =some s:=⟨_,lgg (by omega)⟩;have u3:l[(k:Int).toNat]? =some s:=by simpa using hs
   have x2:=zkO m l (duM m l mi) k;apply yk;apply yf;apply kB;apply ye;(iterate 3 refine ya ?_);refine zk ?_;refine ya ?_;refine kK ?_;apply yG;(iterate 2 refine ya ?_);refine ya (hs:=zrs (venc:=tmA) tmZ rfl rfl rfl zmE zkq (λ_ _=>rfl) (zru ze83)) ?_;refine gd ?_ ?_<;>intro N
   ·have V:=zkN (m:=m) (M:=duM m l mi) hs N;refine gq ?_;refine yz (k+1) (hI:=yi)
   have Z:=zfY U hs N;have V:=zmX (m:=m) (M:=duM m l mi) hs N;refine gd ?_ ?_<;>intro J
   ·rw[←zwe (z:=tmZ) J]at V;refine gq ?_;refine yD tmE [⟨_,_⟩] ?_;refine gq ?_;refine yz (k+1) (hI:=yi)
   ·refine gc (zba _) ?_;refine gd ?_ ?_<;>intro E
    ·rw[←zqr J,←zuJ E]at V;refine gc (zho m Z.1 s.Value Z.2.1 Z.2.2) ?_;refine yD tmE [⟨_,_⟩] ?_;refine gq ?_;refine yz (k+1) (hI:=yi)
    ·rw[←zqr J,←zuK E]at V;refine gc (zaR Z.1 Z.2.1 Z.2.2) ?_;refine yD tmE [⟨_,_⟩] ?_;refine gq ?_;refine yz (k+1) (hI:=yi)
  ·have xT:k=l.length:=by omega
   subst xT;apply kO;apply ye;refine yE ?_;refine kE ?_;refine kA (k9 (k:=13) rfl) ?_;refine ym ?_ ?_;all_goals(first|exact j5 tmsA T|exact j5 (AV.int .i64) hE)
set_option maxHeartbeats 2000000 in
def zfN(m:Mn)(l:List Sg)(mi:List Int)(hl:l.length<=1000)(v5:mi.length<=1000):Fn prog 240 [mnA m,sgsA l,yc mi] (.tup [tmsA (duV m l mi),iv (duE m l mi)]):=by
 have v4:=ze8 m l;refine kF func240 ntmps240 (λg w d=>?_);refine gc (zb9 m l hl) ?_;refine gd ?_ ?_<;>intro V
 ·have hE:=zuM (mi:=mi) V;have J:=zjW hE V;apply ye;refine yE ?_;refine kE ?_;refine kA (yd (ts:=[(6,tmsA []),(7,iv (ckD m l))]) (hs:=[])) ?_;refine ym ?_ ?_;all_goals(first|exact j5 tmsA J|exact j5 (AV.int .i64) hE)
 refine gd ?_ ?_<;>intro v3
 ·have hE:=zuN (mi:=mi) V (by omega);have J:=zjW hE (by decide);apply ye;refine yO ?_;refine kE ?_;refine kA (yd (ts:=[(6,tmsA []),(7,iv 2)]) (hs:=[])) ?_;refine ym ?_ ?_;all_goals(first|exact j5 tmsA J|exact j5 (AV.int .i64) hE)
 apply yk;apply yf;apply ye;refine yh ?_;apply kB;refine zM (λk=>[(1,sgsA l),(2,yc mi),(3,.ptr 3 0 0 0),(8,yc (prL m l)),(10,iv (k:Int))]) (λk=>[(3,.box (mnE m) 23)]) (λk=>k<=mi.length/\mnK mi k) mi.length (λk hk=>?_) (hJ:=by exact⟨by omega,zuL mi⟩) (h0:=yd);obtain⟨v1,G⟩:=hk;refine gd ?_ ?_<;>intro v0
 ·obtain⟨y,U⟩:∃y,mi[k]? =some y:=⟨_,lgg (by omega)⟩;have x1:mi[(k:Int).toNat]? =some y:=by simpa using U
  apply yk;apply yf;apply kB;apply ye;iterate 5 refine ya ?_
  refine kI 5 ?_;refine yp ?_;iterate 5 refine kG ?_
  refine gf ?_ ?_<;>intro E
  ·have hE:=zuO V (zl6 U E.1 E.2);have J:=zjW hE (by decide);apply ye;refine yO ?_;refine kE ?_;refine kA (yd (ts:=[(6,tmsA []),(7,iv 2)]) (hs:=[])) ?_;refine ym ?_ ?_;all_goals(first|exact j5 tmsA J|exact j5 (AV.int .i64) hE)
  refine gq ?_;refine yz (k+1) (hJ:=by exact⟨by omega,zqt G U (by omega)⟩)
 ·have x0:k=mi.length:=by omega
  subst x0;have hok:mnOk mi=true:=zqu G;have hE:=zuP V (by omega) hok;have J:=zuQ hE;have u4:[]=dvK m l (duM m l mi) 0:=by unfold dvK;rfl
  apply kO;apply ye;refine yh ?_;iterate 2 apply yf
  refine kJ (yI tmE 83 2 11 11 rfl rfl) ?_;apply yj;refine yh ?_;apply kB;refine zu (λk=>[(1,sgsA l),(2,yc mi),(3,.ptr 3 0 0 0),(8,yc (prL m l)),(11,.own 11),(12,iv (k:Int))]) (λk=>[(3,.box (mnE m) 23),(11,.row tmE (dvK m l (duM m l mi) k) 83 2)]) l.length (λk hk=>?_);refine gd ?_ ?_<;>intro u3
  ·obtain⟨s,hs⟩:∃s,l[k]? =some s:=⟨_,lgg (by omega)⟩;have u2:l[(k:Int).toNat]? =some s:=by simpa using hs
   have v8:=zkO m l (duM m l mi) k;refine gd ?_ ?_<;>intro I
   ·have xT:=zkN (m:=m) (M:=duM m l mi) hs I;refine gq ?_;refine yz (k+1) (hI:=yi)
   have Z:=zfY V hs I;refine gq ?_;refine yW [13,60,61,62,63,64,65,66,67,68,69] [0,0,0,6,14,30,63,127,255,255,0,1535,4095] mo ?_;(iterate 6 refine yb ?_);refine yL (zy Z.1 Z.2.1 Z.2.2) ?_;(iterate 3 refine yb ?_);refine ChM.step rfl rfl rfl (zx (k:=13) zc83) rfl ?_;refine zbM 9 ⟨[(1,sgsA l),(2,yc mi),(3,.ptr 3 0 0 0),(8,yc (prL m l)),(11,.own 11),(12,iv (k:Int)),(13,.ptr 13 0 0 0)],[(3,.box (mnE m) 23),(11,.row tmE (dvK m l (duM m l mi) k) 83 2),(13,.box (tmE (yx m s.Value)) 83)]⟩ (λQ hQ=>?_) (λQ hQ=>?_) ?_
   ·refine kK ?_;refine ya ?_;exact kU yi hQ
   ·refine kK ?_;(iterate 2 refine ya ?_);exact kU yi hQ
   apply kQ;refine zb1 ⟨[(1,sgsA l),(2,yc mi),(3,.ptr 3 0 0 0),(8,yc (prL m l)),(11,.own 11),(12,iv (k:Int)),(13,.ptr 13 0 0 0)],[(3,.box (mnE m) 23),(11,.row tmE (dvK m l (duM m l mi) k) 83 2),(13,.box (tmE (bsT m s)) 83)]⟩ (λT=>?_) ?_
   ·refine gc (zA _) ?_;refine gd ?_ ?_<;>intro x4
    ·have w2:tmE (durT m s.Value)=tmE (bsT m s):=j5 tmE (zuJ x4);refine yW [75,76,77,78,79,80] [0,0,0,6,14,30,63,127] mo ?_;(iterate 6 refine yb ?_);refine yF ?_;refine yP (zdf m Z.1 s.Value Z.2.1 Z.2.2) ?_;refine kK ?_;apply kQ;exact kJ yi T
    ·have w2:tmE (yx m s.Value)=tmE (bsT m s):=j5 tmE (zuK x4);apply yk;exact kJ yi T
   apply yf;apply ye;refine yh ?_;apply kB;have u1:tmE (bsT m s)=tmE (refT (prL m l) mi (k:Int) (bsT m s) 0):=j5 tmE (zwd _ _ _ _);refine zu (λj=>[(1,sgsA l),(2,yc mi),(3,.ptr 3 0 0 0),(8,yc (prL m l)),(11,.own 11),(12,iv (k:Int)),(13,.ptr 13 0 0 0),(15,iv (j:Int))]) (λj=>[(3,.box (mnE m) 23),(11,.row tmE (dvK m l (duM m l mi) k) 83 2),(13,.box (tmE (refT (prL m l) mi (k:Int) (bsT m s) j)) 83)]) ((prL m l).length) (λj hk=>?_);refine gd ?_ ?_<;>intro k5
   ·obtain⟨x,hx⟩:∃x,(prL m l)[j]? =some x:=⟨_,lgg (by omega)⟩;have k4:(prL m l)[(j:Int).toNat]? =some x:=by simpa using hx
    have k3:=zqv hx;obtain⟨y,U⟩:∃y,mi[j]? =some y:=⟨_,lgg (by omega)⟩;have x1:mi[(j:Int).toNat]? =some y:=by simpa using U
    apply yk;apply yf;(iterate 2 apply kB);apply ye;(iterate 5 refine ya ?_);refine kI 5 ?_;refine yp ?_;(iterate 6 refine kG ?_);refine gf ?_ ?_<;>intro H
    ·have x3:tmE ⟨3,2⟩=tmE (refT (prL m l) mi (k:Int) (bsT m s) (j+1)):=j5 tmE (zwa hx U H);refine gq ?_;refine yz (j+1) (hI:=yi)
    ·apply ye;(iterate 5 refine ya ?_);refine kI 5 ?_;refine yp ?_;(iterate 7 refine kG ?_);refine gf ?_ ?_<;>intro N
     ·have x3:tmE ⟨1,2⟩=tmE (refT (prL m l) mi (k:Int) (bsT m s) (j+1)):=j5 tmE (zwb hx U H N);refine gq ?_;refine yz (j+1) (hI:=yi)
     ·have x3:tmE (refT (prL m l) mi (k:Int) (bsT m s) j)=tmE (refT (prL m l) mi (k:Int) (bsT m s) (j+1)):=j5 tmE (zwc hx U H N);refine gq ?_;refine yz (j+1) (hI:=yi)
   ·have v9:j=(prL m l).length:=by omega
    subst v9;have xT:dvK m l (duM m l mi) k++[refT (prL m l) mi (k:Int) (bsT m s) (prL m l).length]=dvK m l (duM m l mi) (k+1):=by rw[zjV _ _ _ _ _ (jD _)];exact zmX hs I
    refine gq ?_;refine yD tmE [⟨_,_⟩] ?_;refine gq ?_;refine yz (k+1) (hI:=yi)
  ·have x2:k=l.length:=by omega
   subst x2;apply kO;apply ye;refine yE ?_;refine kE ?_;refine kA (k9 (k:=11) rfl) ?_;refine ym ?_ ?_;all_goals(first|exact j5 tmsA J|exact j5 (AV.int .i64) hE)
end
section
structure Ite where
 Sign:Int
 Value:Int
 Rest:Bool
 Color:Bool
 Fixed:Bool
 Cut:Int
 Dur:Tm
 Before:Tm
 After:Tm
 deriving DecidableEq
instance:Inhabited Ite:=⟨⟨0,0,false,false,false,0,⟨0,0⟩,⟨0,0⟩,⟨0,0⟩⟩⟩
def itE:Ite->List AV:=λx=>[.int .i64 x.Sign,.int .i64 x.Value,.bool x.Rest,.bool x.Color,.bool x.Fixed,.int .i64 x.Cut,.int .i64 x.Dur.N,.int .i64 x.Dur.D,.int .i64 x.Before.N,.int .i64 x.Before.D,.int .i64 x.After.N,.int .i64 x.After.D]
abbrev itA(x:Ite):AV:=.agg (itE x)
abbrev itsA(l:List Ite):AV:=.sl itE l
instance:EncK itE 12:=⟨λ_=>rfl⟩
def ntN(l:List Sg):Nat->Nat
 |0=>0
 |k+1=>match l[k]? with
  |some s=>if s.Kind=3 then ntN l k else ntN l k+1
  |none=>ntN l k
theorem zvs{l:List Sg}{k:Nat}{s:Sg}(hs:l[k]? =some s)(h:¬s.Kind=3):ntN l (k+1)=ntN l k+1:=by
 simp_all[ntN]
theorem zlB(l:List Sg)(k:Nat):ntN l k<=ntN l (k+1)/\ntN l (k+1)<=ntN l k+1:=by
 grind[ntN]
def zlC(l:List Sg):∀(n k:Nat),k<=n->ntN l k<=ntN l n
 |0,k,h=>by simp_all
 |n+1,k,h=>by
  rcases wA n k with Z|Z
  ·grind
  ·have:=zlC l n k Z
   grind[zlB]
def zks(l:List Sg):∀k,ntN l k<=k
 |0=>jD _
 |k+1=>by have:=zks l k;grind[zlB]
theorem zmF(ch:List Int)(l:List Sg):∀k,(mkK ch l k).1.length=ntN l k
 |0=>rfl
 |k+1=>by
  have h:=zmF ch l k
  grind[mkK,ntN]
theorem zpq(m:Mn)(l:List Sg)(M:List (Int×Tm)):∀k,(dvK m l M k).length=ntN l k
 |0=>rfl
 |k+1=>by
  have h:=zpq m l M k
  grind[dvK,ntN]
def znq{m:Mn}{l:List Sg}{M:List (Int×Tm)}{k:Nat}{s:Sg}(hs:l[k]? =some s)(h:¬s.Kind=3):∀n,k<n->(dvK m l M n)[ntN l k]? =some ((mget (k:Int) M).getD (bsT m s))
 |0,Q=>by omega
 |n+1,Q=>by
  rcases wA k n with U|U
  ·have ih:=znq (m:=m) (M:=M) hs h n U;have Z:ntN l k<(dvK m l M n).length:=(j1.1 ih).1;cases V:l[n]? with
   |none=>simp only[dvK,V];exact ih
   |some z=>
    by_cases T:z.Kind=3
    ·rw[←zkN V T];exact ih
    ·rw[←zmX V T,uY Z];exact ih
  grind[zpq,dvK]
def itOf(k:Nat)(s:Sg)(c:Int)(a:Bool)(d:Tm):Ite:=
 ⟨k,s.Value,decide (s.Kind=2),clr s,a||decide (s.Kind=2)||clr s||decide (c=s.Value),c,if a=true then mulV d ⟨3,2⟩else d,⟨0,1⟩,⟨0,1⟩⟩
def itK(l:List Sg)(c:List Int)(a:List Bool)(d:List Tm):Nat->List Ite
 |0=>[]
 |k+1=>match l[k]? with
  |some s=>if s.Kind=3 then itK l c a d k else itK l c a d k++[itOf k s (c.getD (ntN l k) 0) (a.getD (ntN l k) false) (d.getD (ntN l k) ⟨0,0⟩)]
  |none=>itK l c a d k
section
variable{l:List Sg}{c:List Int}{a:List Bool}{d:List Tm}{k:Nat}{s:Sg}
def znr(hs:l[k]? =some s)(h:s.Kind=3):itK l c a d k=itK l c a d (k+1):=by
 simp_all[itK]
def zpr{x:Int}{y:Bool}{z:Tm}(hs:l[k]? =some s)(h:¬s.Kind=3)(hx:c[ntN l k]? =some x)(Z:a[ntN l k]? =some y)(V:d[ntN l k]? =some z):itK l c a d k++[itOf k s x y z]=itK l c a d (k+1):=by
 simp_all[itK]
end
def zul(l:List Sg)(c:List Int)(a:List Bool)(d:List Tm):[]=itK l c a d 0:=rfl
def zih(l:List Sg)(c:List Int)(a:List Bool)(d:List Tm):∀k,(itK l c a d k).length=ntN l k
 |0=>rfl
 |k+1=>by
  have h:=zih l c a d k
  grind[itK,ntN]
def zum(m:Mn)(v:Int):Bool:=decide (mulE (yx m v) ⟨3,2⟩=0)&&decide (mulE (durT m v) ⟨3,2⟩=0)
theorem zoP:zer zum=true:=by kernel_rfl
def zvt{m:Mn}{v:Int}(hm:ckM m=0)(Z:1<=v)(V:v<=8):mulE (yx m v) ⟨3,2⟩=0/\mulE (durT m v) ⟨3,2⟩=0:=by
 grind[zaS,zoP,zum]
def zrL{m:Mn}{s:Sg}(hm:ckM m=0)(Z:1<=s.Value)(V:s.Value<=8):mulE (bsT m s) ⟨3,2⟩=0:=by
 unfold bsT;split;all_goals simp_all[zvt]
theorem zdN(p mi:List Int)(q:Int):∀k x,mget q (zbN p mi k)=some x->x=⟨3,2⟩\/x=⟨1,2⟩
 |0,x,h=>by simp[zbN,zqp]at h
 |k+1,x,h=>by
  unfold zbN at h;split at h
  ·rw[zdB,zdB]at h;split at h
   ·simp_all
   ·split at h
    ·simp_all
    ·exact zdN p mi q k x h
  ·exact zdN p mi q k x h
def zps{m:Mn}{l:List Sg}{mi:List Int}{q:Int}{s:Sg}(hm:ckM m=0)(Z:1<=s.Value)(V:s.Value<=8):mulE ((mget q (duM m l mi)).getD (bsT m s)) ⟨3,2⟩=0:=by
 cases h:mget q (duM m l mi)with
 |none=>exact zrL hm Z V
 |some x=>
  rcases zdN _ _ _ _ _ h with rfl|rfl
  ·show mulE ⟨3,2⟩ ⟨3,2⟩=0;decide+kernel
  ·show mulE ⟨1,2⟩ ⟨3,2⟩=0;decide+kernel
def itmE(m:Mn)(l:List Sg)(ch mi:List Int):Int:=if mkE m l ch=0 then duE m l mi else mkE m l ch
def itmV(m:Mn)(l:List Sg)(ch mi:List Int):List Ite:=if itmE m l ch mi=0 then itK l (mkC m l ch) (mkA m l ch) (duV m l mi) l.length else[]
theorem zmG{m:Mn}{l:List Sg}{ch:List Int}(h:¬ckD m l=0):mkE m l ch=ckD m l:=by unfold mkE;rw[j4 h]
def zpt{m:Mn}{l:List Sg}{ch:List Int}(h:mkE m l ch=0):ckD m l=0:=by
 grind[zmG]
def zmH{m:Mn}{l:List Sg}{ch mi:List Int}(h:¬mkE m l ch=0):itmE m l ch mi=mkE m l ch:=by unfold itmE;rw[j4 h]
def zkt{m:Mn}{l:List Sg}{ch mi:List Int}(h:mkE m l ch=0):itmE m l ch mi=duE m l mi:=by unfold itmE;rw[j3 h]
def zii{m:Mn}{l:List Sg}{ch mi:List Int}(h:¬itmE m l ch mi=0):itmV m l ch mi=[]:=by unfold itmV;rw[j4 h]
def zmI{m:Mn}{l:List Sg}{ch mi:List Int}(h:itmE m l ch mi=0):itmV m l ch mi=itK l (mkC m l ch) (mkA m l ch) (duV m l mi) l.length:=by unfold itmV;rw[j3 h]
def zun{m:Mn}{l:List Sg}{ch mi:List Int}{k:Nat}{s:Sg}(V:mkE m l ch=0)(T:duE m l mi=0)(hs:l[k]? =some s)(h:¬s.Kind=3):
 ∃x y z,(mkC m l ch)[ntN l k]? =some x/\(mkA m l ch)[ntN l k]? =some y/\(duV m l mi)[ntN l k]? =some z/\mulE z ⟨3,2⟩=0/\ntN l k<ntN l l.length/\ckM m=0/\1<=s.Value/\s.Value<=8/\(z=bsT m s\/z=⟨3,2⟩\/z=⟨1,2⟩):=by
 have U:k<l.length:=(j1.1 hs).1
 have Z:ntN l k<ntN l l.length:=by
  have:=zlC l l.length (k+1) U
  grind[zvs]
 obtain⟨hm,v1,v8⟩:=zfY (zpt V) hs h;have c1:(mkC m l ch).length=ntN l l.length:=by simp_all[mkC,zmF]
 have c2:(mkA m l ch).length=ntN l l.length:=by grind[mkA,zhR,zmF]
 refine⟨_,_,_,lgg (by omega),lgg (by omega),?_,zps (l:=l) (mi:=mi) (q:=(k:Int)) (s:=s) hm v1 v8,Z,hm,v1,v8,?_⟩
 ·simp_all[duV,znq]
 ·cases Q:mget (k:Int) (duM m l mi)<;>grind[duM,zdN]
def zrM{m:Mn}{l:List Sg}(h:ckD m l=0){k:Nat}{s:Sg}(hs:l[k]? =some s)(Z:¬s.Kind=3):s.Kind=1\/s.Kind=2:=by
 have V:k<l.length:=(j1.1 hs).1;have U:=(zar (zif h) (k+1) (by omega)).2 k s (by omega) hs;simp_all[sgF];omega
def zvu{s:Sg}(h:s.Kind=1\/s.Kind=2):(s.Color&&!decide (s.Kind=2))=(decide (s.Kind=1)&&s.Color):=by
 all_goals grind
section
variable{k:Nat}{s:Sg}{x:Int}{y:Bool}{z:Tm}
def itL(k:Nat)(s:Sg)(f:Bool)(x:Int)(z:Tm):Ite:=⟨k,s.Value,decide (s.Kind=2),decide (s.Kind=1)&&s.Color,f,x,z,⟨0,1⟩,⟨0,1⟩⟩
def zxt(Z:s.Kind=1\/s.Kind=2):itL k s (decide (s.Kind=2)||(decide (s.Kind=1)&&s.Color)||y||decide (x=s.Value)) x (if y=true then mulV z ⟨3,2⟩else z)=itOf k s x y z:=by
 grind[itL,itOf,clr]
def zxu(Z:y=true):itL k s true x (mulV z ⟨3,2⟩)=itOf k s x y z:=by subst Z;rfl
def zpu(Z:y=false)(h:s.Kind=2\/clr s=true\/x=s.Value):itL k s true x z=itOf k s x y z:=by
 grind[clr,itOf,itL]
def zxv(Z:y=false)(V:¬s.Kind=2)(U:clr s=false)(T:¬x=s.Value):itL k s false x z=itOf k s x y z:=by
 simp_all[clr,itOf,itL]
end
end
section
attribute [local irreducible] Pur yA yC Ex X Fn Imp LeV LeB FnO It yH
def tfx(t:Tm)(l:List Tm):Int:=if l.findIdx (λu=>decide (t=u))<l.length then(l.findIdx (λu=>decide (t=u)):Int)else-1
def zrN{t:Tm}{l:List Tm}{k:Nat}{v:Tm}(hv:l[k]? =some v)(V:t=v)(hJ:∀i u,i<k->l[i]? =some u->¬t=u):tfx t l=k:=by
 have Z:k<l.length:=(j1.1 hv).1;have U:l[k]=v:=(j1.1 hv).2;have:l.findIdx (λu=>decide (t=u))=k:=(List.findIdx_eq Z).2 ⟨by rw[U];simpa using V,λj T=>by simpa using hJ j _ T (lgg (by omega))⟩;unfold tfx;rw[this,j3 Z]
def zpv{t:Tm}{l:List Tm}(hJ:∀i u,i<l.length->l[i]? =some u->¬t=u):tfx t l=-1:=by
 have:l.findIdx (λu=>decide (t=u))=l.length:=uG.2 λx hx=>by
  obtain⟨i,hi⟩:=jP.1 hx;simpa using hJ i x (j1.1 hi).1 hi
 unfold tfx;rw[j4 (by omega)]
def zrO(t:Tm)(l:List Tm):decide (0<=tfx t l)=decide (t∈l):=by
 by_cases h:t∈l
 ·have:l.findIdx (λu=>decide (t=u))<l.length:=List.findIdx_lt_length_of_exists ⟨t,h,by simp⟩;simp only[tfx,j3 this,h];simp
 ·have V:l.findIdx (λu=>decide (t=u))=l.length:=uG.2 λu Z=>jC λe=>h (e▸Z)
  have:¬l.findIdx (λu=>decide (t=u))<l.length:=by omega
  simp only[tfx,j4 this,h];simp
def zcB{α:Type}{l:List α}{j:Nat}{x:α}(h:l[j]? =some x):l.take j++[x]=l.take (j+1):=by
 rw[jF,h];rfl
def zjI(m:Mn):(perfL m).length<=4:=by
 unfold perfL;refine jQ (wS _ _) ?_;simp
attribute [local irreducible] tfx perfL
def zbx(l:List Tm)(t:Tm)(hl:l.length<=4000000000):Fn prog 217 [tmsA l,tmA t] (iv (tfx t l)):=by
 refine kF func217 ntmps217 (λg w d=>?_);apply ye;refine zH ?_;refine yh ?_;apply yf;apply ye;refine yE ?_;apply kB;refine zM (λk=>[(0,tmsA l),(3,.ptr 3 0 0 0),(7,iv l.length),(8,iv (k:Int))]) (λk=>[(3,.box (tmE t) 83)]) (λk=>k<=l.length/\∀i u,i<k->l[i]? =some u->¬t=u) l.length (λk T=>?_) (hJ:=by exact⟨by omega,λi u h=>absurd h (wT i)⟩) (h0:=yd);obtain⟨Q,Z⟩:=T;refine gd ?_ ?_<;>intro N
 ·obtain⟨v,hv⟩:∃v,l[k]? =some v:=⟨_,lgg (by omega)⟩;have J:l[(k:Int).toNat]? =some v:=by simpa using hv
  refine gq ?_;refine yW [11,12,13,14,15,16] [0,0,0,6,14,31] mo ?_;iterate 6 refine yb ?_
  refine yF ?_;refine gd ?_ ?_<;>intro V
  ·refine gq ?_;all_goals(congr 1;exact(zrN hv V Z).symm)
  refine gq ?_
  refine yz (k+1) (hJ:=by
   refine⟨by omega,λi u hi U=>?_⟩;rcases w6.1 hi with h|h
   ·exact Z i u h U
   ·subst h;rw[hv]at U;injection U with U;subst U;exact V)
 ·refine gq ?_;all_goals(congr 1;exact(zpv (λi u hi=>Z i u (by omega))).symm)
def zq(l:List Tm)(t:Tm)(hl:l.length<=4000000000):Fn prog 168 [tmsA l,tmA t] (.bool (decide (t∈l))):=by
 refine kF func168 ntmps168 (λg w d=>?_);refine gc (zbx l t hl) ?_;all_goals(congr 1;exact zrO t l)
def zby(a b:List Tm)(hl:a.length<=4000000000):Fn prog 130 [tmsA a,tmsA b] (.bool (decide (a=b))):=by
 refine kF func130 ntmps130 (λg w d=>?_);refine gd ?_ ?_<;>intro N
 ·have U:decide (a=b)=false:=by rw[jR];intro h;subst h;exact N rfl
  refine gq ?_;all_goals rw[U]
 have T:a.length=b.length:=by omega
 apply yk;apply yf;apply ye;refine yE ?_;apply kB;refine zM (λk=>[(0,tmsA a),(1,tmsA b),(12,iv a.length),(13,iv (k:Int))]) (λk=>[]) (λk=>k<=a.length/\a.take k=b.take k) a.length (λk J=>?_) (hJ:=by exact⟨by omega,by simp⟩) (h0:=yd);obtain⟨I,Z⟩:=J;refine gd ?_ ?_<;>intro H
 ·obtain⟨x,hx⟩:∃x,a[k]? =some x:=⟨_,lgg (by omega)⟩;have G:a[(k:Int).toNat]? =some x:=by simpa using hx
  obtain⟨y,V⟩:∃y,b[k]? =some y:=⟨_,lgg (by omega)⟩;have E:b[(k:Int).toNat]? =some y:=by simpa using V
  refine gq ?_;refine yW [16,17,18,19,20,21,22,23,24] [0,0,3,7,0,0,48,112,255] mo ?_;iterate 9 refine yb ?_
  refine yF ?_;refine gd ?_ ?_<;>intro Q
  ·have U:decide (a=b)=false:=by rw[jR];intro h;subst h;rw[hx]at V;injection V with V;exact Q V
   refine gq ?_;all_goals rw[U]
  refine gq ?_;refine yz (k+1) (hJ:=by exact⟨by omega,by rw[←zcB hx,←zcB V,Z,Q]⟩)
 ·have U:decide (a=b)=true:=by
   have h1:k=a.length:=by omega
   rw[jU];subst h1;rw[jH,T,jH]at Z;exact Z
  refine gq ?_;all_goals rw[U]
def z8(l:List Ite)(hl:l.length<=4000000):FnO prog 193 [itsA l] [] [] (.own 5) [(5,.row itE l 183 12)]:=by
 refine bF (ts:=[(0,itsA l)]) (rv:=[.tmp 2]) (n:=8) (cs:=[]) (by kernel_rfl) func193 rfl ntmps193 rfl rfl (by simp) rfl rfl rfl rfl (λg w d vs=>?_);apply ye;refine yh ?_;apply yf;apply ye;refine ya ?_;refine Ex.eqNil rfl zhB rfl (λb U=>?_);refine gd ?_ ?_<;>intro Z
 ·have V:=U Z;subst V;subst Z;apply ye;refine yh ?_;refine kE ?_;refine zou.imp (yI itE 183 12 2 5 rfl rfl) ?_;refine zou.mk (ts:=[(2,.own 5)]) (.inr rfl) (yd) (.one (.tmp rfl (kC rfl)))
 refine gq ?_;refine yD itE [] ?_;refine ya ?_;refine kK ?_;refine yh ?_;refine kE ?_;refine zou.mk (ts:=[(2,.own 5)]) (.inr rfl) (yd) (.one (.tmp rfl (kC rfl)))
def zcC(m:Mn):Fn prog 257 [.nils,.fn 258 [.ept (λ_:Unit=>mnE m) () 0]] (yc (perfL m)):=by
 have T:=zjI m;refine kF func257 ntmps257 (λg w d=>?_);apply ye;refine zeW ?_;refine yh ?_;iterate 2 apply yf
 refine kJ (zb0 intE 3 1 2 39 46 rfl rfl) ?_;apply yj;refine yh ?_;apply kB;have Q:[]=(perfL m).take 0:=by simp
 have V:(perfL m).take (zfC m).length=perfL m:=by unfold zfC;rw[jX,jH]
 refine X.range (sl:=[2]) (λj=>([.ptr 2 0 0 0],[(2,.box [.own 39] 46),(39,.row intE ((perfL m).take j) 3 1)])) (λj=>True) 900001 900002 rfl rfl (by decide) (λj zs Z=>by obtain⟨i,_,rfl⟩:=zcx Z;rfl) (zdD m) trivial rfl rfl (by decide) (w7 _) (by simp) (λj zs Z=>by obtain⟨i,_,rfl⟩:=zcx Z;rfl) (λ_=>rfl) rfl rfl (λl o us=>yd) (trivial) (λj zs Z hJ l ready busy rb vs g w H N=>?_) (λhJ=>?_)
 ·have U:=zcx Z;obtain⟨i,hi,rfl⟩:=U;have J:=zcB hi;have I:((perfL m).take j).length<=1000:=by simp;omega
  apply yj;refine yh ?_;refine⟨rfl,rfl,?_⟩;refine gq ?_;refine yD intE [_] ?_;iterate 2 refine kK ?_
  apply kQ;refine⟨[.ptr 2 0 0 0],[(2,.box [.own 39] 46),(39,.row intE ((perfL m).take (j+1)) 3 1)],yd,rfl,trivial⟩
 apply ye;refine yO ?_;refine kE ?_;refine kA (k9 (k:=39) rfl) ?_;refine gq ?_;all_goals(first|exact j5 yc V|rfl)
def zep(m:Mn):Fn prog 195 [.fn 258 [.ept (λ_:Unit=>mnE m) () 0]] (yc (perfL m)):=by
 refine kF func195 ntmps195 (λg w d=>?_);refine gc (zcC m) ?_;all_goals exact zR
def zdm(m:Mn):Fn prog 141 [mnA m] (.tup [yc (if ckM m=0 then perfL m else[]),iv (ckM m)]):=by
 refine kF func141 ntmps141 (λg w d=>?_);refine gc (zaV m) ?_;refine gd ?_ ?_<;>intro Z
 ·apply ye;refine yE ?_;refine kE ?_;refine kA (yd (ts:=[(2,yc []),(3,iv (ckM m))]) (hs:=[])) ?_;refine ym ?_ ?_;all_goals(first|(rw[j4 Z];done)|rfl)
 refine gq ?_;refine yP (zeF m) ?_;refine gc (zep m) ?_;refine ym ?_ ?_;all_goals(first|(rw[j3 Z];done)|exact j5 (AV.int .i64) Z.symm)
end
section
attribute [local irreducible] Pur yA yC Ex X Fn Imp LeV LeB FnO It yH
structure Sp where
 Value:Int
 Rest:Bool
 Color:Bool
 Dot:Bool
 Way:Int
 deriving DecidableEq
def spE:Sp->List AV:=λs=>[iv s.Value,.bool s.Rest,.bool s.Color,.bool s.Dot,iv s.Way]
abbrev spA(s:Sp):AV:=.agg (spE s)
abbrev spsA(l:List Sp):AV:=.sl spE l
def spOf(v w:Int):Sp:=⟨v,decide (w=8),decide (w=5)||decide (w=6)||decide (w=7),decide (w=2)||decide (w=6),w⟩
def zrP(m:Mn){v:Int}(Z:1<=v)(n:Nat):(wdL m v n).length<=81:=by
 have V:=zfa m v (5-v).toNat v (yx m v) false;have U:3^(5-v).toNat<=3^4:=vC (by decide) (by omega);have T:3^4=81:=rfl;unfold wdL
 repeat' split
 all_goals first|(simp;done)|omega
def alI(m:Mn)(t:Tm)(v:Int):Nat->List Sp
 |0=>[]
 |n+1=>if n≠0/\t∈wdL m v n then alI m t v n++[spOf v (n:Int)]else alI m t v n
def alO(m:Mn)(t:Tm):Nat->List Sp
 |0=>[]
 |k+1=>alO m t k++alI m t (1+(k:Int)) 9
def zhS(m:Mn)(t:Tm)(v:Int):∀n,(alI m t v n).length<=n
 |0=>jD _
 |n+1=>by
  have:=zhS m t v n;unfold alI;split
  ·simp;omega
  ·omega
theorem zhT(m:Mn)(t:Tm):∀k,(alO m t k).length<=9*k
 |0=>jD _
 |k+1=>by
  have Z:=zhT m t k;have V:=zhS m t (1+(k:Int)) 9;unfold alO;simp;omega
theorem zns{m:Mn}{t:Tm}{v:Int}{n:Nat}(Z:n≠0)(h:t∈wdL m v n)(X:List Sp):X++alI m t v n++[spOf v (n:Int)]=X++alI m t v (n+1):=by
 conv=>rhs;unfold alI
 rw[j3 ⟨Z,h⟩,v7]
theorem zmJ{m:Mn}{t:Tm}{v:Int}{n:Nat}(h:n=0\/¬t∈wdL m v n)(X:List Sp):X++alI m t v n=X++alI m t v (n+1):=by
 conv=>rhs;unfold alI
 rw[j4 (λe=>by rcases h with h|h;exact e.1 h;exact h e.2)]
def allE(m:Mn)(t:Tm):List Sp:=if bthE m t=0 then alO m t 8 else[]
def fnT:fnTy prog 213:=⟨_,_,_,Tryz.underlying213⟩
def zrQ(j:Nat)(Z:j<9):(j=0/\(zuX.drop ((j:Int).toNat*4)).take 4=[.bool false,.bool false,.bool false,.nilf])∨
 (j≠0/\∃f,(zuX.drop ((j:Int).toNat*4)).take 4=[.bool (decide ((j:Int)=8)),.bool (decide ((j:Int)=5)||decide ((j:Int)=6)||decide ((j:Int)=7)),.bool (decide ((j:Int)=2)||decide ((j:Int)=6)),.fn f []]∧
  ∀(m:Mn)(v:Int),ckM m=0->1<=v->v<=8->Fn prog f [mnA m,iv v] (tmsA (wdL m v j))):=by
 rcases j with _|_|_|_|_|_|_|_|_|j
 ·exact .inl ⟨rfl,rfl⟩
 ·exact .inr ⟨by decide,_,rfl,λm v a b c=>ziI m v a b c⟩
 ·exact .inr ⟨by decide,_,rfl,λm v a b c=>ziJ m v a b c⟩
 ·exact .inr ⟨by decide,_,rfl,λm v a b c=>zkY m v a b c⟩
 ·exact .inr ⟨by decide,_,rfl,λm v a b c=>ziK m v a b c⟩
 ·exact .inr ⟨by decide,_,rfl,λm v a b c=>ziL m v a b c⟩
 ·exact .inr ⟨by decide,_,rfl,λm v a b c=>ziM m v a b c⟩
 ·exact .inr ⟨by decide,_,rfl,λm v a b c=>ziN m v a b c⟩
 ·exact .inr ⟨by decide,_,rfl,λm v a b c=>ziO m v a b c⟩
 ·omega
attribute [local irreducible] yx durT mulV wdL alI alO bthE tfx
set_option maxHeartbeats 4000000 in
def zlD(m:Mn)(t:Tm):Fn prog 120 [mnA m,tmA t] (.tup [spsA (allE m t),iv (bthE m t)]):=by
 refine kF func120 ntmps120 (λg w d=>?_);refine gc (zkW m t) ?_;refine gd ?_ ?_<;>intro V
 ·have N:[]=allE m t:=by unfold allE;rw[j4 V]
  apply ye;refine yE ?_;refine kE ?_;refine kA (yd (ts:=[(4,spsA []),(5,iv (bthE m t))]) (hs:=[])) ?_;refine ym ?_ ?_;all_goals(first|exact j5 spsA N|rfl|exact j5 (AV.int .i64) V.symm)
 apply yk;apply ye;refine yh ?_;iterate 2 apply yf
 refine kJ (yI spE 155 5 7 7 rfl rfl) ?_;apply yj;refine yh ?_;apply kB;have E:[]=alO m t 0:=by unfold alO;rfl
 have J:=zqM V;refine zu (λk=>[(2,.ptr 2 0 0 0),(3,.ptr 3 0 0 0),(7,.own 7),(8,iv (1+(k:Int)))]) (λk=>[(2,.box (mnE m) 23),(3,.box (tmE t) 83),(7,.row spE (alO m t k) 155 5)]) 8 (λk hk=>?_);refine gd ?_ ?_<;>intro xT
 ·refine gq ?_;refine yP zkZ ?_;refine yh ?_;apply kB;have x4:alO m t k=alO m t k++alI m t (1+(k:Int)) 0:=by unfold alI;simp
  have x3:=zhT m t k;refine zu (λj=>[(2,.ptr 2 0 0 0),(3,.ptr 3 0 0 0),(7,.own 7),(8,iv (1+(k:Int))),(21,.agg zuX),(22,iv (j:Int))]) (λj=>[(2,.box (mnE m) 23),(3,.box (tmE t) 83),(7,.row spE (alO m t k++alI m t (1+(k:Int)) j) 155 5)]) 9 (λj hk=>?_);refine gd ?_ ?_<;>intro x2
  ·have x1:=zhS m t (1+(k:Int)) j;apply yk;apply yf;apply kB;apply yf;rcases zrQ j (by omega)with⟨U,Z⟩|⟨U,fw,Z,hF⟩
   ·apply yj;refine ya ?_;refine ya (hs:=zF ArK.h TyK.h rfl rfl (by omega) (by omega) Z) ?_;refine gq ?_;refine yW [26,27,28,29,30,31,32,33,34,35,36,37] [0,1,3,7,15,31,15,15,255,15,1023,2047] mo ?_;(iterate 2 refine yb ?_);refine ChM.step rfl rfl rfl (k8 (znl fnT rfl rfl)) rfl ?_;refine yb ?_;(iterate 6 refine ChM.gn (.any) ?_);refine ChM.gn (.bool false) ?_;refine yb ?_;refine yF ?_;refine gd ?_ ?_<;>intro I
    ·simp at I
    have T:=zmJ (m:=m) (t:=t) (v:=1+(k:Int)) (n:=j) (.inl U) (alO m t k);refine gq ?_;refine yz (j+1) (hI:=yi)
   ·apply yj;refine ya ?_;refine ya (hs:=zF ArK.h TyK.h rfl rfl (by omega) (by omega) Z) ?_;refine gq ?_;refine yW [26,27,28,29,30,31,32,33,34,35,36,37] [0,1,3,7,15,31,15,15,255,15,1023,2047] mo ?_;(iterate 2 refine yb ?_);refine ChM.step rfl rfl rfl (k8 (zrv fnT rfl rfl)) rfl ?_;refine yb ?_;(iterate 4 refine kM ?_);refine kZ (hF m (1+(k:Int)) J.1 (by omega) (by omega)) ?_;refine kM ?_;refine kZ (zq (wdL m (1+(k:Int)) j) t (by have:=zrP m (show 1<=1+(k:Int)by omega) j;omega)) ?_;refine yb ?_;refine yF ?_;refine gd ?_ ?_<;>intro Q
    ·have T:=zns (v:=1+(k:Int)) U Q.2 (alO m t k);refine gq ?_;refine yD spE [spOf (1+(k:Int)) (j:Int)] ?_;refine gq ?_;refine yz (j+1) (hI:=yi)
    ·have T:=zmJ (m:=m) (t:=t) (v:=1+(k:Int)) (n:=j) (.inr (by rcases Q with h|h;exact absurd h (by decide);exact h)) (alO m t k);refine gq ?_;refine yz (j+1) (hI:=yi)
  ·have H:j=9:=by omega
   subst H;have T:alO m t k++alI m t (1+(k:Int)) 9=alO m t (k+1):=by conv=>rhs;unfold alO
   refine gq ?_;refine yz (k+1) (hI:=yi)
 ·have G:k=8:=by omega
  subst G;have N:alO m t 8=allE m t:=by unfold allE;rw[j3 V]
  apply kO;apply ye;refine yE ?_;refine kE ?_;refine kA (k9 (k:=7) rfl) ?_;refine ym ?_ ?_;all_goals(first|exact j5 spsA N|rfl|exact j5 (AV.int .i64) V.symm)
end
end Go.Rse
