/-
  Walks.
-/
import Derived.Test.YtbopkhoalndflaaGreatDoorUJWrm1
set_option linter.all false
namespace Go.Rse
open Go Go.Proofs Go.Proofs.Tryz
section
def uE:Unit->List AV:=λ_=>[]
def zi2{P:Program}{C:Ctx}{st:St}{ty:TypeId}{α:Type}{enc:α->List AV}{l:List α}{x:Operand}{k s:Nat}{E:TypeId}(hx:ev st x=some (.own k))(Z:lk st.h k=some (.row enc l E s)):Pur P C (.move x) ty st (.sl uE (List.replicate l.length ())):=λg a w dst pos af gd hr=>by
 obtain⟨xs,ho,-⟩:=hr.sat.blk k _ Z;refine⟨_,rfl,?_⟩;rw[←z7 (yu hr hx)];rcases ho with⟨-,⟨e1,e2⟩|⟨b,cap,cur,e1,-,-,V,U,-⟩⟩
 ·rw[e1,e2];exact .sl uE [] none 0 0 0 0 (λ_ _=>.nilIface) (λh=>absurd rfl h) (jE _) (wH _) (λi x h=>by simp at h) (λi x j h=>by simp at h) (λi x j c h=>by simp at h)
 ·rw[e1];have h:=RV.sl (I:=g.I) (ρ:=g.ρ) uE (List.replicate l.length ()) (some ⟨b,0,none⟩) b 0 0 cap (λ_ _=>.nilIface) (λ_=>rfl) (by simpa using V) U (λi x _=>rfl) (λi x j _ T=>absurd T (wU _)) (λi x j c _ Q=>by simp[uE]at Q);simpa using h
def zu6{α:Type}{l:List α}{k:Nat}{x:α}(h:l[k]? =some x):l.take k++[x]=l.take (k+1):=by rw[jA,h];rfl
def bsK(L:List (List Sg))(k:Nat):List Sg:=(mwK (L.map wgV) k).r
def zu7{L:List (List Sg)}{x:List Sg}(h:L[0]? =some x):x=bsK L 1:=by
 unfold bsK;rw[zry,j8,jJ,h];rfl
def zoA{L:List (List Sg)}:∀k,1<=k->k<=L.length->mwK (L.map wgV) k=wgV (bsK L k)/\bsK L k∈L
 |0,h,_=>by omega
 |k+1,_,U=>by
  obtain⟨x,hx⟩:∃x,L[k]? =some x:=⟨_,lgg (by omega)⟩;rcases xH k with h0|h0
  ·subst h0;rw[←zu7 hx];refine⟨?_,j5 hx⟩;rw[zry,j8,jJ,hx];rfl
  ·have Z:=zoA (L:=L) k h0 (by omega);have V:=zrz (l:=L.map wgV) h0 (x:=wgV x) (by rw[jJ,hx];rfl);unfold bsK;rw[V];split
   ·exact⟨rfl,j5 hx⟩
   ·exact Z
def zzj{L:List (List Sg)}{k:Nat}{x:List Sg}(Z:1<=k)(h:L[k]? =some x):bsK L (k+1)=if x.length<(bsK L k).length\/x.length=(bsK L k).length/\coN x<coN (bsK L k)then x else bsK L k:=by
 have T:=(zoA (L:=L) k Z (by have:=(j1.1 h).1;omega)).1;have V:=zrz (l:=L.map wgV) Z (x:=wgV x) (by rw[jJ,h];rfl);rw[T]at V
 have U:wgC (wgV x) (wgV (bsK L k))<0↔x.length<(bsK L k).length\/x.length=(bsK L k).length/\coN x<coN (bsK L k):=by
  rw[zwd];unfold wgV;simp only;omega
 conv=>lhs;unfold bsK
 rw[V];by_cases c:wgC (wgV x) (wgV (bsK L k))<0
 ·rw[j4 c,j4 (U.1 c)];rfl
 ·rw[j3 c,j3 (λe=>c (U.2 e))];rfl
def zqT{m:Mn}{l:List Bt}{h:Hb}{x:List Sg}(hx:x∈wlV m l h):clN x=coN x:=by
 unfold wlV at hx;split at hx
 ·exact zyy (zwc hx).2.1
 ·simp at hx
attribute [local irreducible] Pur yA yC Ex X Fn Imp LeV LeB FnO It yH FnW FnOW FnP FnD
attribute [local irreducible] wcE wcnE wcnV wlV beE beV bsK clN coN rdE rdV bsV zbV rsL unE2 unV2 skE skB ckD
set_option maxHeartbeats 4000000 in
def zc6(m:Mn)(l:List Bt)(h:Hb)(hl:l.length<=4000000000):Fn prog 38 [mnA m,btsA l,hbA h] (.tup [sgsA (beV m l h),iv (beE m l h)]):=by
 refine kC func38 ntmps38 (λg w d=>?_);refine gc (zbR m l h hl) ?_;refine gd ?_ ?_<;>intro I
 ·have H:=zz7 I;obtain⟨hE,V⟩:=H;apply ye;refine yq ?_;refine kE ?_;refine k8 (yd (ts:=[(6,sgsA []),(7,iv (wcnE m l h))]) (hs:=[])) ?_;refine yh ?_ ?_;all_goals(first|exact zE hE|exact zE V)
 have h0:wcnE m l h=0:=by omega
 have E:=zjt h0;obtain⟨v9,U⟩:=E;refine gd ?_ ?_<;>intro v8
 ·have xT:=zz8 h0 (by omega);obtain⟨hE,V⟩:=xT;apply ye;refine yL ?_;refine kE ?_;refine k8 (yd (ts:=[(6,sgsA []),(7,iv 18)]) (hs:=[])) ?_;refine yh ?_ ?_;all_goals(first|exact zE hE|exact zE V)
 have x4:=zz9 h0 (by omega);obtain⟨hE,V⟩:=x4;obtain⟨x0,T⟩:∃x,(wlV m l h)[0]? =some x:=⟨_,lgg (by omega)⟩;have v5:(wlV m l h)[(0:Int).toNat]? =some x0:=T;have v4:=zu7 T;refine gq ?_;refine zcw (ι:=Nat) (λ(k:Nat)=>[(8,zp (wlV m l h)),(10,sgsA (bsK (wlV m l h) k)),(11,iv (k:Int))]) (λ(k:Nat)=>[]) (λ(k:Nat)=>1<=k/\k<=(wlV m l h).length) (λ(k:Nat)=>(wlV m l h).length-k) 1 (λk hk=>?_) (hJ:=by exact⟨by omega,by omega⟩) (h0:=by exact yg);obtain⟨Q,x3⟩:=hk;refine gd ?_ ?_<;>intro v3
 ·obtain⟨x,hx⟩:∃x,(wlV m l h)[k]? =some x:=⟨_,lgg (by omega)⟩;have v1:(wlV m l h)[(k:Int).toNat]? =some x:=by simpa using hx
  have Z:=zzj Q hx;have v0:=U x (j5 hx);have N:=(zoA k Q x3).2;have u3:=U _ N;have x1:=zqT (j5 hx);have w2:=zqT N;apply yl;apply yf;apply kA;apply ye;iterate 8 refine ya ?_
  refine kG 8 ?_;refine gq ?_;refine kQ (zcB x (by omega)) ?_;refine gq ?_;refine kQ (zcB (bsK (wlV m l h) k) (by omega)) ?_;iterate 2 refine kF ?_
  refine gf ?_ ?_<;>intro u2
  ·rw[j4 (by omega)]at Z;have J:=Z.symm;refine gq ?_;refine yo (k+1) (hJ:=by exact⟨by omega,by omega⟩) (hI:=yg)
  ·rw[j3 (by omega)]at Z;have J:=Z.symm;refine gq ?_;refine yo (k+1) (hJ:=by exact⟨by omega,by omega⟩) (hI:=yg)
 ·obtain rfl:k=(wlV m l h).length:=by omega
  have x2:beV m l h=bsK (wlV m l h) (wlV m l h).length:=by rw[V];unfold bsK mwV;rw[jO]
  refine gq ?_;refine yh ?_ ?_;all_goals(first|exact zE hE|exact zE x2)
set_option maxHeartbeats 4000000 in
def zaq(m:Mn)(r:List Sg)(hl:r.length<=1000):Fn prog 42 [mnA m,sgsA r] (.tup [btsA (bsV m r),iv (rdE m r)]):=by
 have xT:[]=zbV (rdV m r).Durs (rsL (r.take 0)):=by unfold rsL;exact zvj _
 refine kC func42 ntmps42 (λg w d=>?_);refine gc (zc9 m r hl) ?_;refine gd ?_ ?_<;>intro Q
 ·have U:bsV m r=[]:=by unfold bsV;rw[j3 Q]
  apply ye;refine yq ?_;refine kE ?_;refine k8 (yd (ts:=[(4,btsA []),(5,iv (rdE m r))]) (hs:=[])) ?_;refine yh ?_ ?_;all_goals(first|exact zE U|exact j6 (λz=>btsA z) U|exact j6 (AV.int .i64) h0.symm|rfl)
 have h0:rdE m r=0:=by omega
 have N:bsV m r=zbV (rdV m r).Durs (rsL r):=by unfold bsV;rw[j4 h0]
 have x4:=zrc h0;apply yl;apply ye;refine yi ?_;iterate 2 apply yf
 refine kJ (yE btE 100 3 8 30 rfl rfl) ?_;apply yj;refine yi ?_;apply kA;refine ze (λk=>[(1,sgsA r),(2,.ptr 2 0 0 0),(6,tmsA (rdV m r).Durs),(9,iv (k:Int)),(8,.own 30)]) (λk=>[(2,.box (mnE m) 23),(30,.row btE ((zbV (rdV m r).Durs (rsL (r.take k)))) 100 3)]) r.length (λk hk=>?_);refine gd ?_ ?_<;>intro x3
 ·obtain⟨s,hs⟩:∃s,r[k]? =some s:=⟨_,lgg (by omega)⟩;have x2:r[(k:Int).toNat]? =some s:=by simpa using hs
  refine gd ?_ ?_<;>intro J
  ·have Z:=zhD hs (by simpa using J);have V:=zra r (k+1);rw[←Z,jI]at V;have I:=zoD (rdV m r).Durs (rsL (r.take k)) (by simp at V;omega);obtain⟨t,ht⟩:∃t,(rdV m r).Durs[(rsL (r.take k)).length]? =some t:=⟨_,lgg (by simp at V;omega)⟩;have H:=zq9 (r:=decide (s.Kind=2)) ht;rw[Z]at H;have x1:(rdV m r).Durs[((List.replicate (zbV (rdV m r).Durs (rsL (r.take k))).length ()).length:Int).toNat]? =some t:=by rw[uL,I];simpa using ht
   have x0:=uL (n:=(zbV (rdV m r).Durs (rsL (r.take k))).length) (a:=());have E:=(j1.1 ht).1;have w2:(rsL (r.take k)).length<=1000:=jR (zg9 _) (by rw[jL];omega);refine kY [⟨1,32,tmsA (rdV m r).Durs,[]⟩,⟨2,33,.sl uE (List.replicate (zbV (rdV m r).Durs (rsL (r.take k))).length ()),[]⟩,⟨3,34,iv ((List.replicate (zbV (rdV m r).Durs (rsL (r.take k))).length ()).length:Int),[2]⟩,⟨4,35,.ept tmE t 0,[2,3,1]⟩,⟨5,36,tmA t,[2,3,1,4]⟩,⟨6,37,sgsA r,[]⟩,⟨7,38,iv (k:Int),[]⟩,⟨8,39,.ept sgE s 0,[7,6]⟩,⟨9,40,.ept sgE s (0+0),[7,6,8]⟩,⟨10,41,iv s.Kind,[7,6,8,9]⟩,⟨11,42,.bool (decide (s.Kind=2)),[7,6,8,9,10]⟩,⟨12,43,btA ⟨t,decide (s.Kind=2)⟩,[7,6,8,2,9,3,1,10,4,11,5]⟩,⟨13,44,btsA [⟨t,decide (s.Kind=2)⟩],[7,6,8,2,9,3,1,10,4,11,5,12]⟩] [(0,[]),(14,[7,6,8,2,9,3,1,10,4,11,5,12,13,0]),(15,[13,12,11,10,9,8,7,6,5,4,3,2,1,0,14])] (λj=>match j with|0=>⟨[(1,sgsA r),(2,.ptr 2 0 0 0),(6,tmsA (rdV m r).Durs),(9,iv (k:Int)),(8,.own 30)],[(2,.box (mnE m) 23),(30,.row btE ((zbV (rdV m r).Durs (rsL (r.take k)))) 100 3)]⟩|1=>⟨[(1,sgsA r),(2,.ptr 2 0 0 0),(6,tmsA (rdV m r).Durs),(9,iv (k:Int)),(8,.own 30),(31,.own 30)],[(2,.box (mnE m) 23),(30,.row btE ((zbV (rdV m r).Durs (rsL (r.take k)))) 100 3)]⟩|2=>⟨[(1,sgsA r),(2,.ptr 2 0 0 0),(6,tmsA (rdV m r).Durs),(9,iv (k:Int)),(45,.own 30)],[(2,.box (mnE m) 23),(30,.row btE ((zbV (rdV m r).Durs (rsL (r.take k)))++[⟨t,decide (s.Kind=2)⟩]) 100 3)]⟩|_=>⟨[(1,sgsA r),(2,.ptr 2 0 0 0),(6,tmsA (rdV m r).Durs),(9,iv (k:Int)),(8,.own 30)],[(2,.box (mnE m) 23),(30,.row btE ((zbV (rdV m r).Durs (rsL (r.take k)))++[⟨t,decide (s.Kind=2)⟩]) 100 3)]⟩) mo (by kernel_rfl) (zt (yd)) (λj hj=>?_) (λj c T β hβ=>?_) ?_
   ·rcases j with _|_|_|_|j
    ·refine⟨.inr ⟨_,rfl,rfl,rfl,rfl,k7 yO⟩,?_⟩;refine⟨.inr ⟨_,rfl,rfl,rfl,rfl,k7 (zi2 rfl rfl)⟩,?_⟩;(iterate 10 refine⟨.inr ⟨_,rfl,rfl,rfl,rfl,k7 yO⟩,?_⟩);refine⟨.inr ⟨_,rfl,rfl,rfl,rfl,yF (enc:=btE) (l:=[⟨t,decide (s.Kind=2)⟩]) sl24 zf5 zjZ (by decide) rfl rfl rfl rfl (by decide) (by decide) (λ_=>rfl) rfl⟩,?_⟩;exact True.intro
    ·refine⟨.inr ⟨_,rfl,rfl,rfl,rfl,k7 yO⟩,?_⟩;refine⟨.inr ⟨_,rfl,rfl,rfl,rfl,k7 (zi2 rfl rfl)⟩,?_⟩;(iterate 10 refine⟨.inr ⟨_,rfl,rfl,rfl,rfl,k7 yO⟩,?_⟩);refine⟨.inr ⟨_,rfl,rfl,rfl,rfl,yF (enc:=btE) (l:=[⟨t,decide (s.Kind=2)⟩]) sl24 zf5 zjZ (by decide) rfl rfl rfl rfl (by decide) (by decide) (λ_=>rfl) rfl⟩,?_⟩;exact True.intro
    ·exact yJ
    ·exact yJ
    ·exact absurd (show j+4<=3 from hj) (by omega)
   ·rcases j with _|_|_|j
    ·obtain rfl:(0,[])=c:=by injection T
     refine yw rfl (yr (st0:=⟨[(32,.ifb (β 1) (tmsA (rdV m r).Durs)),(33,.ifb (β 2) (.sl uE (List.replicate (zbV (rdV m r).Durs (rsL (r.take k))).length ()))),(34,.ifb (β 3) (iv ((List.replicate (zbV (rdV m r).Durs (rsL (r.take k))).length ()).length:Int))),(35,.ifb (β 4) (.ept tmE t 0)),(36,.ifb (β 5) (tmA t)),(37,.ifb (β 6) (sgsA r)),(38,.ifb (β 7) (iv (k:Int))),(39,.ifb (β 8) (.ept sgE s 0)),(40,.ifb (β 9) (.ept sgE s (0+0))),(41,.ifb (β 10) (iv s.Kind)),(42,.ifb (β 11) (.bool (decide (s.Kind=2)))),(43,.ifb (β 12) (btA ⟨t,decide (s.Kind=2)⟩)),(44,.ifb (β 13) (btsA [⟨t,decide (s.Kind=2)⟩])),(1,sgsA r),(2,.ptr 2 0 0 0),(6,tmsA (rdV m r).Durs),(9,iv (k:Int)),(8,.own 30)],[(2,.box (mnE m) 23),(30,.row btE ((zbV (rdV m r).Durs (rsL (r.take k)))) 100 3)]⟩) (ym) ?_);refine yC.imp (yS (k7 (zlJ rfl)) rfl rfl) (ym)
    ·obtain rfl:(14,[7,6,8,2,9,3,1,10,4,11,5,12,13,0])=c:=by injection T
     refine yw rfl (yr (st0:=⟨[(32,tmsA (rdV m r).Durs),(33,.sl uE (List.replicate (zbV (rdV m r).Durs (rsL (r.take k))).length ())),(34,iv ((List.replicate (zbV (rdV m r).Durs (rsL (r.take k))).length ()).length:Int)),(35,.ept tmE t 0),(36,tmA t),(37,sgsA r),(38,iv (k:Int)),(39,.ept sgE s 0),(40,.ept sgE s (0+0)),(41,iv s.Kind),(42,.bool (decide (s.Kind=2))),(43,btA ⟨t,decide (s.Kind=2)⟩),(44,btsA [⟨t,decide (s.Kind=2)⟩]),(1,sgsA r),(2,.ptr 2 0 0 0),(6,tmsA (rdV m r).Durs),(9,iv (k:Int)),(8,.own 30),(31,.own 30)],[(2,.box (mnE m) 23),(30,.row btE ((zbV (rdV m r).Durs (rsL (r.take k)))) 100 3)]⟩) (ym) ?_);refine yC.imp (zv rfl rfl rfl SlK.h TiK.h (by decide) (by decide) (λ_=>rfl) (λ_=>rfl) (by first|omega|(simp;done)|(simp;omega)|(simp_all;omega)) rfl) (ym)
    ·obtain rfl:(15,[13,12,11,10,9,8,7,6,5,4,3,2,1,0,14])=c:=by injection T
     refine yw rfl (yr (st0:=⟨[(32,tmsA (rdV m r).Durs),(33,.sl uE (List.replicate (zbV (rdV m r).Durs (rsL (r.take k))).length ())),(34,iv ((List.replicate (zbV (rdV m r).Durs (rsL (r.take k))).length ()).length:Int)),(35,.ept tmE t 0),(36,tmA t),(37,sgsA r),(38,iv (k:Int)),(39,.ept sgE s 0),(40,.ept sgE s (0+0)),(41,iv s.Kind),(42,.bool (decide (s.Kind=2))),(43,btA ⟨t,decide (s.Kind=2)⟩),(44,btsA [⟨t,decide (s.Kind=2)⟩]),(1,sgsA r),(2,.ptr 2 0 0 0),(6,tmsA (rdV m r).Durs),(9,iv (k:Int)),(45,.own 30)],[(2,.box (mnE m) 23),(30,.row btE ((zbV (rdV m r).Durs (rsL (r.take k)))++[⟨t,decide (s.Kind=2)⟩]) 100 3)]⟩) (ym) ?_);refine yC.imp (yS (k7 (zcs rfl)) rfl rfl) (ym)
    ·exact absurd T (by simp)
   refine gq ?_;refine yo (k+1) (hI:=yg)
  ·have Z:=j6 (zbV (rdV m r).Durs) (zft hs (by omega));refine gq ?_;refine yo (k+1) (hI:=yg)
 ·obtain rfl:k=r.length:=by omega
  have U:zbV (rdV m r).Durs (rsL (r.take r.length))=bsV m r:=by rw[j9,N]
  apply kK;apply ye;refine yq ?_;refine kE ?_;refine k8 (k9 (k:=30) rfl) ?_;refine yh ?_ ?_;all_goals(first|exact zE U|exact j6 (λz=>btsA z) U|exact j6 (AV.int .i64) h0.symm|rfl)
def zfK(m:Mn)(r:List Sg)(n:Mn)(q:Hb)(hl:r.length<=1000):Fn prog 46 [mnA m,sgsA r,mnA n,hbA q] (.tup [sgsA (unV2 m r n q),iv (unE2 m r n q)]):=by
 refine kC func46 ntmps46 (λg w d=>?_);refine gc (zaq m r hl) ?_;refine gd ?_ ?_<;>intro Z
 ·have hE:unE2 m r n q=rdE m r:=by unfold unE2;rw[j3 Z]
  have V:unV2 m r n q=[]:=by unfold unV2;rw[j3 Z]
  apply ye;refine yq ?_;refine kE ?_;refine k8 (yd (ts:=[(8,sgsA []),(9,iv (rdE m r))]) (hs:=[])) ?_;refine yh ?_ ?_;all_goals(first|exact zE hE|exact zE V)
 have h0:rdE m r=0:=by omega
 have hE:unE2 m r n q=beE n (bsV m r) q:=by unfold unE2;rw[j4 h0]
 have V:unV2 m r n q=beV n (bsV m r) q:=by unfold unV2;rw[j4 h0]
 refine gc (zc6 n (bsV m r) q (by have:=zfv m r;omega)) ?_;refine yh ?_ ?_;all_goals(first|exact zE hE|exact zE V)
set_option maxHeartbeats 2000000 in
def zfL(m:Mn)(a:List Sg)(n:Mn)(b:List Sg)(ha:a.length<=1000)(hb:b.length<=1000):Fn prog 44 [mnA m,sgsA a,mnA n,sgsA b] (.tup [.bool (skB m a n b),iv (skE m a n b)]):=by
 have x2:=zfv m a;have x1:=zfv n b;refine kC func44 ntmps44 (λg w d=>?_);refine gc (zH m a (by omega)) ?_;refine gd ?_ ?_<;>intro H
 ·have E:=zAb (n:=n) (b:=b) H;obtain⟨hE,Z⟩:=E;refine gq ?_;refine yh ?_ ?_;all_goals(first|exact zE hE|exact zE Z|(rw[hE,T];done))
 have I:ckD m a=0:=by omega
 refine gc (zH n b (by omega)) ?_;refine gd ?_ ?_<;>intro xT
 ·have x4:=zAc I xT;obtain⟨hE,Z⟩:=x4;refine gq ?_;refine yh ?_ ?_;all_goals(first|exact zE hE|exact zE Z|(rw[hE,T];done))
 have T:ckD n b=0:=by omega
 have x3:=zAd I T;obtain⟨hE,V⟩:=x3;refine gc (zaq m a ha) ?_;refine yM (zaq n b hb) ?_;iterate 2 refine ya ?_
 refine yq ?_;apply yf;apply ye;iterate 2 refine ya ?_
 refine kG 2 ?_;refine yn ?_;iterate 2 refine kF ?_
 iterate 2 refine yn ?_
 iterate 5 refine kF ?_
 refine gf ?_ ?_<;>intro x0
 ·have Z:skB m a n b=false:=by
   rw[V,Bool.eq_false_iff];intro e;simp only[j7,jT]at e;obtain⟨e1,e2,e3⟩:=e;have e4:=j6 List.length e3;omega
  refine gq ?_;refine yh ?_ ?_;all_goals(first|exact zE hE|exact zE Z|(rw[hE,T];done))
 have h5:rdE m a=0:=by omega
 have h6:rdE n b=0:=by omega
 have N:(bsV m a).length=(bsV n b).length:=by omega
 rw[jH h5,jH h6,wZ,wZ]at V;apply yl;apply yf;apply ye;refine yi ?_;apply kA;refine zV (λk=>[(12,btsA (bsV m a)),(14,btsA (bsV n b)),(16,iv (k:Int))]) (λk=>[]) (λk=>k<=(bsV m a).length/\(bsV m a).take k=(bsV n b).take k) ((bsV m a).length) (λk hk=>?_) (hJ:=by exact⟨by omega,by simp⟩);obtain⟨w2,U⟩:=hk;refine gd ?_ ?_<;>intro v9
 ·obtain⟨x,hx⟩:∃x,(bsV m a)[k]? =some x:=⟨_,lgg (by omega)⟩;have v8:(bsV m a)[(k:Int).toNat]? =some x:=by simpa using hx
  obtain⟨y,Q⟩:∃y,(bsV n b)[k]? =some y:=⟨_,lgg (by omega)⟩;have v5:(bsV n b)[(k:Int).toNat]? =some y:=by simpa using Q
  refine gq ?_;refine yQ [60,61,62,63,64,65,66,67,68] [0,0,3,7,0,0,48,112,255] mo ?_;iterate 8 refine yb ?_
  refine yb ?_ (hs:=by exact zbd (ziu _ _) inferInstance TyK.h rfl rfl rfl rfl rfl);refine yx ?_;refine gd ?_ ?_<;>intro J
  ·have Z:skB m a n b=false:=by rw[V,jP];intro h;rw[h]at hx;rw[hx]at Q;injection Q with Q;exact(by simpa using J:¬x=y) Q
   refine gq ?_;refine yh ?_ ?_;all_goals(first|exact zE hE|exact zE Z|(rw[hE,T];done))
  refine gq ?_;refine yo (k+1) (hJ:=by exact⟨by omega,by rw[←zu6 hx,←zu6 Q,U,(by simpa using J:x=y)]⟩) (hI:=yg)
 ·have Z:skB m a n b=true:=by
   have I:k=(bsV m a).length:=by omega
   rw[V,jT];subst I;rw[j9,N,j9]at U;exact U
  refine gq ?_;refine yh ?_ ?_;all_goals(first|exact zE hE|exact zE Z|(rw[hE,T];done))
end
section
def zwJ(m:Mn)(l:List Bt)(h:Hb):(wlV m l h).length<=4096/\∀x∈wlV m l h,x.length<=24:=by
 by_cases c:wcnE m l h=0
 ·exact zjt c
 ·unfold wlV;rw[j3 c];simp
def zqU(m:Mn)(l:List Bt)(h:Hb):(beV m l h).length<=24:=by
 unfold beV;split
 ·rename_i c
  have h0:wcnE m l h=0:=by
   apply jZ;intro Z;unfold beE at c;rw[j3 Z]at c;exact Z c
  have U:¬(wlV m l h).length=0:=λZ=>by unfold beE at c;rw[j4 h0,j4 Z]at c;cases c
  have:=(zoA (L:=wlV m l h) (wlV m l h).length (by omega) (jE _)).2;have V:=(zjt h0).2 _ this;unfold bsK at V;unfold mwV;rw[jO];exact V
 ·simp
attribute [local irreducible] Pur yA yC Ex X Fn Imp LeV LeB FnO It yH FnW FnOW FnP FnD
attribute [local irreducible] ltQ wlV beV beE wcnE
set_option maxHeartbeats 4000000 in
def C_tactuslaw24_WritingsAll(m:Mn)(z:List Bt)(q:Hb):Fn prog 7 [mnA m,btsA z,hbA q] (.bool true):=by
 have V:Fn prog 11 [mnA m,btsA z] (.bool (ltQ m z)):=by
  by_cases h:z.length<=20
  ·exact za5 m z (by omega)
  ·have q:=zb8 m z (by omega);rw[show ltQ m z=false by unfold ltQ;rw[jD h];rfl];exact q
 have U:=zwJ m z q;obtain⟨N,T⟩:=U;have J:=zqU m z q;refine kC func7 ntmps7 (λg w d=>?_);refine gc V ?_;refine gd ?_ ?_<;>intro Z
 ·apply ye;refine gc zj ?_;all_goals(first|rfl|simp)
 have Q:z.length<=20:=by unfold ltQ at Z;rw[j7,jT]at Z;exact Z.1
 refine gq ?_;refine yz btE [] ?_;refine ya ?_;refine kI ?_;refine yi ?_;apply yf;refine kJ (k9 (k:=25) rfl) ?_;refine gc (zbT m z q (by omega)) ?_;refine gc (zbR m z q (by omega)) ?_;refine gc (zhF m z q (by omega)) ?_;refine gc (zcH m z q (by omega)) ?_;refine gc (zer m z q (by omega)) ?_;refine gc (zc6 m z q (by omega)) ?_;refine yM (zbK (wlV m z q) (wlV m z q) (by omega) (λx hx=>by have:=T x hx;omega)) ?_;refine kG 3 ?_;refine gq ?_;refine kQ (y6 (beV m z q) (beV m z q) (by omega)) ?_;refine gq ?_;refine kQ (zbt z z (by omega)) ?_;refine gq ?_;refine kQ zj ?_;refine ge ?_;all_goals(first|rfl|simp)
end
section
def zs5(m:Mn)(r:List Sg)(n:Mn)(h:Hb):(unV2 m r n h).length<=24:=by
 unfold unV2;split
 ·exact zqU _ _ _
 ·simp
attribute [local irreducible] Pur yA yC Ex X Fn Imp LeV LeB FnO It yH FnW FnOW FnP FnD
attribute [local irreducible] ltQ unE2 unV2 skE skB bsV rdE
set_option maxHeartbeats 8000000 in
def C_tactuslaw24_WritingsUnder(m n:Mn)(a b:List Sg)(q:Hb):Fn prog 8 [mnA m,mnA n,sgsA a,sgsA b,hbA q] (.bool true):=by
 have U:=zs5 m a n q;have T:=zfv m a;refine kC func8 ntmps8 (λg w d=>?_);apply ye;iterate 3 refine zZ ?_
 refine yi ?_;apply yf;apply ye;iterate 3 refine ya ?_
 refine kG 3 ?_;refine yn ?_;iterate 3 refine kF ?_
 refine gf ?_ ?_<;>intro Q
 ·apply ye;refine gc zj ?_;all_goals(first|rfl|simp)
 have N:a.length<=24:=by omega
 have J:b.length<=24:=by omega
 have Z:=za5 n (bsV m a) (by omega);refine gc (zcp a (by omega)) ?_;refine gc (zcp b (by omega)) ?_;refine gc (zaZ m a (by omega)) ?_;refine gc (zaq m a (by omega)) ?_;refine gc (zhH m a n b (by omega) (by omega)) ?_;refine gc (zfL m a n b (by omega) (by omega)) ?_;refine yM (zbt (bsV m a) (bsV m a) (by omega)) ?_;refine ya ?_;refine kG 4 ?_;refine gq ?_;refine kQ (y6 a a (by omega)) ?_;refine gq ?_;refine kQ (y6 b b (by omega)) ?_;refine kF ?_;refine gf ?_ ?_<;>intro V
 ·simp at V
 apply yl;apply yf;apply ye;iterate 2 refine ya ?_
 refine kG 2 ?_;refine gq ?_;refine kQ Z ?_;refine kF ?_;refine gf ?_ ?_<;>intro I
 ·apply ye;refine gc zj ?_;all_goals(first|rfl|simp)
 refine gc (zhG m a n q (by omega)) ?_;refine gc (zfK m a n q (by omega)) ?_;refine yM (y6 (unV2 m a n q) (unV2 m a n q) (by omega)) ?_;refine kG 3 ?_;refine gq ?_;refine kQ zj ?_;refine ge ?_;all_goals(first|rfl|simp)
end
section
def mnF(l:List Int)(k:Nat):Int:=minL ((l.take k).drop 1) (l.getD 0 0)
def zkq(x:Int):∀(l:List Int)(a:Int),minL (l++[x]) a=min (minL l a) x
 |[],a=>by
  show(if x<a then x else a)=min a x;rw[Int.min_def];by_cases h:x<a
  ·rw[j4 h,j3 (by omega)]
  ·rw[j3 h,j4 (by omega)]
 |y::r,a=>by show minL (r++[x]) _=min (minL r _) x;rw[zkq x r]
def zzk(l:List Int):l.getD 0 0=mnF l 1:=by
 unfold mnF;cases l<;>simp[minL]
def zzl{l:List Int}{k:Nat}{x:Int}(Z:1<=k)(h:l[k]? =some x):min (mnF l k) x=mnF l (k+1):=by
 unfold mnF;rw[jA,h]
 have:((l.take k)++(some x).toList).drop 1=(l.take k).drop 1++[x]:=by
  rw[uS (by have:=(j1.1 h).1;rw[jL];omega)];rfl
 rw[this,zkq]
def zwK{m:Mn}(h:0<(perfL m).length):mnF (perfL m) (perfL m).length=meV m:=by
 unfold mnF meV;rw[j9];cases Z:perfL m with
 |nil=>rw[Z]at h;simp at h
 |cons x r=>simp
def zwL{m:Mn}(h:(perfL m).length=0):meV m=3:=by
 unfold meV;rw[jQ h]
def zwM{m:Mn}(h:ckM m=0):1<=meV m/\meV m<=4:=by
 have:=zcd zta h (v:=1) (by decide) (by decide);unfold meQ at this;simpa using this
attribute [local irreducible] Pur yA yC Ex X Fn Imp LeV LeB FnO It yH FnW FnOW FnP FnD
attribute [local irreducible] wcE ckM perfL meV yy mnF addV addE whE whR whQ bkE bkV blE blV suK
def zeS(l:List Int)(hl:l.length<=4000000000)(h0:0<l.length):Fn prog 142 [yc l] (iv (mnF l l.length)):=by
 have V:=zzk l;obtain⟨x0,Z⟩:∃x,l[0]? =some x:=⟨_,lgg h0⟩;have T:l[(0:Int).toNat]? =some x0:=Z;have Q:x0=mnF l 1:=by rw[←V,j8,Z];rfl
 refine kC func142 ntmps142 (λg w d=>?_);refine gd ?_ ?_<;>intro N
 ·omega
 refine gq ?_;refine zcw (ι:=Nat) (λ(k:Nat)=>[(0,yc l),(3,iv (mnF l k)),(4,iv (k:Int))]) (λ(k:Nat)=>[]) (λ(k:Nat)=>1<=k/\k<=l.length) (λ(k:Nat)=>l.length-k) 1 (λk J=>?_) (hJ:=by exact⟨by omega,by omega⟩) (h0:=by exact yg);obtain⟨U,I⟩:=J;refine gd ?_ ?_<;>intro H
 ·obtain⟨x,hx⟩:∃x,l[k]? =some x:=⟨_,lgg (by omega)⟩;have E:l[(k:Int).toNat]? =some x:=by simpa using hx
  have xT:=zzl U hx;apply yl;apply yf;apply kA;apply yj;iterate 5 refine ya ?_
  refine zak (zAt rfl rfl) rfl ?_;refine gq ?_;refine yo (k+1) (hJ:=by exact⟨by omega,by omega⟩) (hI:=yg)
 ·obtain rfl:k=l.length:=by omega
  refine gq ?_;all_goals exact zR
def zia(m:Mn)(hm:ckM m=0):Fn prog 102 [mnA m] (tmA (meU m)):=by
 have V:=zwM hm;have Q:=zlj m;have U:=zdG m;rw[j4 hm,hm]at U;refine kC func102 ntmps102 (λg w d=>?_);refine gc U ?_;refine gd ?_ ?_<;>intro N
 ·have Z:=zeS (perfL m) (by omega) (by omega);rw[zwK (m:=m) (by omega)]at Z;refine gc Z ?_;refine gc (zaW hm V.1 (by omega)) ?_;refine kH (.one (.cellA rfl rfl rfl rfl ty83 (kB ?_)));all_goals(first|rfl|(unfold meU;rw[T];rfl))
 ·have T:=zwL (m:=m) (by omega);refine gc (zaW hm (v:=3) (by decide) (by decide)) ?_;refine kH (.one (.cellA rfl rfl rfl rfl ty83 (kB ?_)));all_goals(first|rfl|(unfold meU;rw[T];rfl))
def zab(l:List Bt)(hl:l.length<=4000000000):Fn prog 105 [btsA l] (btsA l):=by
 refine kC func105 ntmps105 (λg w d=>?_);apply ye;refine yi ?_;apply yf;apply ye;refine ya ?_;refine zq5 (λbn U=>?_) Tryz.underlying24;refine gd ?_ ?_<;>intro Z
 ·have V:l=[]:=by
   cases l with
   |nil=>rfl
   |cons x r=>rw[U (by simp)]at Z;cases Z
  apply ye;refine yi ?_;refine kE ?_;refine k8 (yd (ts:=[(2,btsA [])]) (hs:=[])) ?_;refine gq ?_;all_goals(first|exact j6 (λz=>btsA z) V.symm|rfl)
 refine gq ?_;refine yz btE [] ?_;refine ya ?_;refine kI ?_;refine yi ?_;refine kE ?_;refine k8 (k9 (k:=5) rfl) ?_;refine gq ?_;all_goals(first|exact j6 (λz=>btsA z) V.symm|rfl)
set_option maxHeartbeats 2000000 in
def zi3(m:Mn)(l:List Bt)(hl:l.length<=1000000):Fn prog 48 [mnA m,btsA l] (.tup [blsA (blV m l),iv (blE m l)]):=by
 refine kC func48 ntmps48 (λg w d=>?_);refine gc (zcm m l (by omega)) ?_;refine gd ?_ ?_<;>intro J
 ·have I:=zCI J;obtain⟨hE,Q⟩:=I;apply ye;refine yq ?_;refine kE ?_;refine k8 (yd (ts:=[(4,blsA []),(5,iv (wcE m l))]) (hs:=[])) ?_;refine yh ?_ ?_;all_goals(first|exact zE Q|exact zE hE)
 have h0:wcE m l=0:=by omega
 have hm:ckM m=0:=by
  apply jZ;intro h;rw[ztp h]at h0;exact h h0
 refine gq ?_;refine yM (zia m hm) ?_;refine zb ?_;refine kI ?_;apply yG;refine yi ?_;apply yf;refine X.label ?_;apply yf;apply kA;refine kJ (yE btsE 24 1 8 30 rfl rfl) ?_;refine zcw (ι:=List Bt×List (List Bt)) (λ(q:List Bt×List (List Bt))=>[(1,btsA q.1),(7,.ptr 7 0 0 0),(8,.own 30)]) (λ(q:List Bt×List (List Bt))=>[(7,.box (tmE (meU m)) 83),(30,.row btsE q.2 24 1)]) (λ(q:List Bt×List (List Bt))=>BlO (meU m) l q.1 q.2) (λ(q:List Bt×List (List Bt))=>q.1.length) (l,[]) (λq H=>?_) (hJ:=by exact zzx _ _) (h0:=by exact yg);have N:=H;have x2:=N.n;refine gd ?_ ?_<;>intro x1
 ·have Z:0<q.1.length:=by omega
  have E:tmE (suK ⟨0,1⟩ q.1 0)=[iv 0,iv 1]:=by unfold suK;rfl
  have x0:=E.symm;apply yl;apply kA;apply ye;refine ya ?_;refine zb ?_;refine kI ?_;apply kL;apply yf;apply ye;refine yq ?_;apply kA;refine zV (λk=>[(1,btsA q.1),(7,.ptr 7 0 0 0),(8,.own 30),(9,.ptr 9 0 0 0),(28,btsA q.1),(29,iv (q.1.length:Int)),(30,iv (k:Int))]) (λk=>[(7,.box (tmE (meU m)) 83),(9,.box (tmE (suK ⟨0,1⟩ q.1 k)) 83),(30,.row btsE q.2 24 1)]) (λk=>k<=q.1.length/\BlK (meU m) q.1 k) q.1.length (λk H=>?_) (hJ:=by exact⟨by omega,zzw _ _⟩);obtain⟨w2,V⟩:=H;refine gd ?_ ?_<;>intro v9
  ·obtain⟨b,U⟩:∃b,q.1[k]? =some b:=⟨_,lgg (by omega)⟩;have v8:q.1[(k:Int).toNat]? =some b:=by simpa using U
   have v5:tmE (addV (suK ⟨0,1⟩ q.1 k) b.Dur)=tmE (suK ⟨0,1⟩ q.1 (k+1)):=by rw[zi6 U]
   refine gc (zbl (suK ⟨0,1⟩ q.1 k) b.Dur) ?_;refine gd ?_ ?_<;>intro xT
   ·have x4:=zCJ h0 N V U xT;obtain⟨hE,Q⟩:=x4;apply ye;refine yq ?_;refine kE ?_;refine k8 (yd (ts:=[(4,blsA []),(5,iv (addE (suK ⟨0,1⟩ q.1 k) b.Dur))]) (hs:=[])) ?_;refine yh ?_ ?_;all_goals(first|exact zE Q|exact zE hE)
   have he:addE (suK ⟨0,1⟩ q.1 k) b.Dur=0:=by omega
   refine gq ?_;refine yM (zlu (addV (suK ⟨0,1⟩ q.1 k) b.Dur) (meU m)) ?_;(iterate 4 refine ya ?_);refine zb ?_;refine ya ?_;refine kI ?_;refine ya ?_;apply yG;(iterate 2 refine ya ?_);refine kG 2 ?_;refine yn ?_;(iterate 3 refine kF ?_);refine gf ?_ ?_<;>intro T
   ·have hw:whB (meU m) (suK ⟨0,1⟩ q.1 (k+1))=true:=by unfold whB;rw[zi6 U];simp[T.1,T.2]
    have v4:q.1.drop ((k:Int)+1).toNat=q.1.drop (k+1):=by rw[show((k:Int)+1).toNat=k+1 by omega]
    have v3:q.2++[q.1.take ((k:Int)+1).toNat]=q.2++[q.1.take (k+1)]:=by rw[show((k:Int)+1).toNat=k+1 by omega]
    refine gq ?_
    first
     |refine zak (zcS rfl rfl rfl sl24 zf5 (by omega) (by omega)) rfl ?_
     |refine zak (zdD rfl rfl sl24 zf5 (λ_=>rfl) (by omega) (by omega)) rfl ?_
    refine yM (zab (q.1.take ((k:Int)+1).toNat) (by rw[jL];omega)) ?_;refine yz btsE [q.1.take ((k:Int)+1).toNat] ?_;refine gq ?_
    first
     |refine zak (zG rfl rfl rfl sl24 zf5 (by omega) (by omega)) rfl ?_
     |refine zak (zah rfl rfl sl24 zf5 (λ_=>rfl) (by omega) (by omega)) rfl ?_
    refine gq ?_;refine yo (q.1.drop (k+1),q.2++[q.1.take (k+1)]) (hJ:=N.cut V U he hw) (hm:=by have:=(j1.1 U).1;show(q.1.drop (k+1)).length<q.1.length;rw[u6];omega) (hI:=yg)
   have hw:¬whB (meU m) (suK ⟨0,1⟩ q.1 (k+1))=true:=by
    intro e;unfold whB at e;rw[zi6 U]at e;simp only[j7,w9]at e;rcases T with h|h
    ·exact h e.1
    ·exact h e.2
   refine gq ?_;refine yo (k+1) (hJ:=by exact⟨by omega,V.s U he hw⟩) (hI:=yg)
  ·obtain rfl:k=q.1.length:=by omega
   refine gq ?_;refine yM (zab q.1 (by omega)) ?_;refine yz btsE [q.1] ?_;refine gq ?_;refine yo ([],q.2++[q.1]) (hJ:=N.last V Z) (hm:=by show 0<q.1.length;exact Z) (hI:=yg)
 ·have Z:q.1=[]:=jQ (by omega);have hO:BlO (meU m) l [] q.2:=Z▸N;have x3:=zCK h0 hO;obtain⟨hE,Q⟩:=x3;apply kK;apply ye;refine yq ?_;refine kE ?_;refine k8 (k9 (k:=30) rfl) ?_;refine yh ?_ ?_;all_goals(first|exact zE Q|exact zE hE)
end
end Go.Rse
