/-
  Walks.
-/
import Derived.Test.YtbopkhoalndflaaGreatDoorYJRef23w
set_option linter.all false
namespace Go.Rse
open Go Go.Proofs Go.Proofs.Tryz
section
attribute [local irreducible] Pur yA yC Ex X Fn Imp LeV LeB FnO It yH
attribute [local irreducible] abvK roA stp roS roK
set_option maxHeartbeats 4000000 in
def zgE(m:Mn)(nums:List Int)(most:Int)(h0:0<=most)(h1:most<=1000)(hr:∀x,x∈nums->-9223372036854775808<=x/\x<=9223372036854775807)(N:nums.length<=maxLen):Fn prog 91 [mnA m,yc nums,iv most] (sgsA (roL m nums most)):=by
 have E:nums.length<=9223372036854775807:=N;have Z:roK m nums most 0=⟨[],4,false⟩:=by unfold roK;rfl
 refine kF func91 ntmps91 (λg w d=>?_);apply ye;refine zH ?_;refine ya ?_;apply yG;iterate 2 refine ya ?_
 refine zH ?_;refine yh ?_;iterate 2 apply yf
 refine kJ (zc9 sgE 90 17 13 40 1 171 _ [.str ⟨#[]⟩,.own 40,iv m.Max,iv m.Mod,iv m.Tem,iv m.Pro,iv 4,.bool false,.bool false] rfl rfl rfl rfl) ?_;apply yj;refine yh ?_;apply kB;refine zu (λk=>[(1,yc nums),(2,iv most),(3,.ptr 3 0 0 0),(7,.ptr 13 0 0 0),(8,iv (k:Int))]) (λk=>[(3,.box (mnE m) 23),(13,.box [.str ⟨#[]⟩,.own 40,iv m.Max,iv m.Mod,iv m.Tem,iv m.Pro,iv (roK m nums most k).p,.bool false,.bool (roK m nums most k).d] 171),(40,.row sgE (roK m nums most k).l 90 17)]) nums.length (λk hk=>?_) (h0:=by exact(kY (by repeat'(first|exact True.intro|(refine And.intro ⟨_,rfl,?_⟩ ?_;exact kH _))) (by repeat'(first|exact True.intro|(refine And.intro ⟨_,rfl,?_⟩ ?_;(first|exact kR _|(refine kV ?_;rw[Z]<;>rfl)))))));apply yf;apply ye;iterate 4 refine ya ?_
 refine kI 4 ?_;refine yp ?_;refine kG ?_;refine kG ?_ (hs:=by intro J;exact yg rfl);iterate 6 refine kG ?_
 refine gf ?_ ?_<;>intro I
 ·obtain⟨x,hx⟩:∃x,nums[k]? =some x:=⟨_,lgg (by omega)⟩;have xT:nums[(k:Int).toNat]? =some x:=by simpa using hx
  have H:=hr x (j6 hx);have x4:0<=x%1048576/\x%1048576<1048576:=by omega
  have x3:=zkv m nums h0 k;have G:=zjN m nums most k;have V:((roK m nums most k).l.length:Int)<most:=I.2;refine gc (zcd x 1048576 H (by omega)) ?_;refine gd ?_ ?_<;>intro U
  ·have Z:=(zpD (m:=m) hx V).trans (zpE U);refine gq ?_;refine yP (zgv m (2+x%1048576/8%6) (by omega) (by omega)) ?_;refine zV [(2000000,13),(2000010,40),(2000011,41)] (zaA m (roK m nums most k).l (roK m nums most k).p false (roK m nums most k).d (rsS (2+x%1048576/8%6)) (abvK m (2+x%1048576/8%6)) (by omega)) ?_;apply kQ;refine kJ (st':=⟨[(1,yc nums),(2,iv most),(3,.ptr 3 0 0 0),(7,.ptr 13 0 0 0),(8,iv (k:Int))],[(3,.box (mnE m) 23),(13,.box [.str ⟨#[]⟩,.own 41,iv m.Max,iv m.Mod,iv m.Tem,iv m.Pro,iv (roK m nums most (k+1)).p,.bool false,.bool (roK m nums most (k+1)).d] 171),(41,.row sgE (roK m nums most (k+1)).l 90 17)]⟩) (kY (by repeat'(first|exact True.intro|(refine And.intro ⟨_,rfl,?_⟩ ?_;exact kH _))) (by repeat'(first|exact True.intro|(refine And.intro ⟨_,rfl,?_⟩ ?_;(first|exact kR _|(refine kV ?_;rw[Z]<;>rfl)))))) ?_;refine kJ (bD 41 40 rfl rfl) ?_;refine gq ?_;refine yz (k+1) (hI:=(kY (by repeat'(first|exact True.intro|(refine And.intro ⟨_,rfl,?_⟩ ?_;exact kH _))) (by repeat'(first|exact True.intro|(refine And.intro ⟨_,rfl,?_⟩ ?_;(first|exact kR _|(refine kV ?_;rw[Z]<;>rfl)))))))
  ·apply ye;(iterate 3 refine ya ?_);refine kI 3 ?_;refine yp ?_;refine kG ?_;refine kG ?_ (hs:=by intro J;exact yg rfl);(iterate 2 refine kG ?_);refine gf ?_ ?_<;>intro T
   ·have Z:=(zpD (m:=m) hx V).trans (zrW U T);refine gq ?_;refine zV [(2000000,13),(2000010,40),(2000011,41)] (zaA m (roK m nums most k).l (roK m nums most k).p false (roK m nums most k).d zpA false (by omega)) ?_;apply kQ;refine kJ (st':=⟨[(1,yc nums),(2,iv most),(3,.ptr 3 0 0 0),(7,.ptr 13 0 0 0),(8,iv (k:Int))],[(3,.box (mnE m) 23),(13,.box [.str ⟨#[]⟩,.own 41,iv m.Max,iv m.Mod,iv m.Tem,iv m.Pro,iv (roK m nums most (k+1)).p,.bool false,.bool (roK m nums most (k+1)).d] 171),(41,.row sgE (roK m nums most (k+1)).l 90 17)]⟩) (kY (by repeat'(first|exact True.intro|(refine And.intro ⟨_,rfl,?_⟩ ?_;exact kH _))) (by repeat'(first|exact True.intro|(refine And.intro ⟨_,rfl,?_⟩ ?_;(first|exact kR _|(refine kV ?_;rw[Z]<;>rfl)))))) ?_;refine kJ (bD 41 40 rfl rfl) ?_;refine gq ?_;refine yz (k+1) (hI:=(kY (by repeat'(first|exact True.intro|(refine And.intro ⟨_,rfl,?_⟩ ?_;exact kH _))) (by repeat'(first|exact True.intro|(refine And.intro ⟨_,rfl,?_⟩ ?_;(first|exact kR _|(refine kV ?_;rw[Z]<;>rfl)))))))
   ·have Z:=(zpD (m:=m) hx V).trans (zpF U (λe=>by rcases T with h|h;(have:=e.1;omega);(rw[h]at e;exact absurd e.2 (by decide))));refine gq ?_;refine zV [(2000000,13),(2000010,40),(2000011,41)] (zdV m (roK m nums most k).l (roK m nums most k).p (2+x%1048576/8%6) (x%1048576/48) false (roK m nums most k).d G (by omega) (by omega)) ?_;apply kQ;refine kJ (st':=⟨[(1,yc nums),(2,iv most),(3,.ptr 3 0 0 0),(7,.ptr 13 0 0 0),(8,iv (k:Int))],[(3,.box (mnE m) 23),(13,.box [.str ⟨#[]⟩,.own 41,iv m.Max,iv m.Mod,iv m.Tem,iv m.Pro,iv (roK m nums most (k+1)).p,.bool false,.bool (roK m nums most (k+1)).d] 171),(41,.row sgE (roK m nums most (k+1)).l 90 17)]⟩) (kY (by repeat'(first|exact True.intro|(refine And.intro ⟨_,rfl,?_⟩ ?_;exact kH _))) (by repeat'(first|exact True.intro|(refine And.intro ⟨_,rfl,?_⟩ ?_;(first|exact kR _|(refine kV ?_;rw[Z]<;>rfl)))))) ?_;refine kJ (bD 41 40 rfl rfl) ?_;refine gq ?_;refine yz (k+1) (hI:=(kY (by repeat'(first|exact True.intro|(refine And.intro ⟨_,rfl,?_⟩ ?_;exact kH _))) (by repeat'(first|exact True.intro|(refine And.intro ⟨_,rfl,?_⟩ ?_;(first|exact kR _|(refine kV ?_;rw[Z]<;>rfl)))))))
 ·have Q:(roK m nums most k).l=roL m nums most:=zvA (by omega) (by omega);apply kO;apply ye;refine ya ?_;refine ya ?_ (hs:=by exact yg rfl);refine ya ?_;refine yE ?_;refine kE ?_;refine kA (k9 (k:=40) rfl) ?_;refine gq ?_;all_goals(rw[←Q];rfl)
end
section
def maV(m:Mn)(nums:List Int)(q:Nat):List Bt:=if rdE m (roL m nums 12)=0 then(bsV m (roL m nums 12)).take q else[]
def zsH(m:Mn)(nums:List Int)(q:Nat):(maV m nums q).length<=q:=by
 unfold maV;split
 ·rw[jM];omega
 ·simp
def zsI{D:List Tm}{A:List Bool}(B:List Bool)(h:A.length<=D.length):(zbV D (A++B)).take A.length=zbV D A:=by
 have Z:=zle D A h;have e:(zbV D A).take A.length=zbV D A:=jY (by omega);rw[←e];unfold zbV;rw[List.take_zipWith,List.take_zipWith,wP (jD _)]
def zsJ{m:Mn}{r:List Sg}{k q:Nat}(h0:rdE m r=0)(Z:(zbV (rdV m r).Durs (rsL (r.take k))).length<=q)(hx:r.length<=k\/q<=(zbV (rdV m r).Durs (rsL (r.take k))).length):zbV (rdV m r).Durs (rsL (r.take k))=(bsV m r).take q:=by
 have V:bsV m r=zbV (rdV m r).Durs (rsL r):=by unfold bsV;rw[j3 h0]
 have U:=zq2 h0;have T:=zm7 r k;have hl:=zle (rdV m r).Durs (rsL (r.take k)) (by omega);rcases hx with hx|hx
 ·rw[jY hx]at Z⊢;rw[V,jY Z]
 ·have e:q=(rsL (r.take k)).length:=by omega
  rw[V,e,zsB r k];exact(zsI _ (by omega)).symm
def zsK{m:Mn}{l:List Bt}(h:Hb)(U:reQ m [] []=true)(Z:wcnE m l hAll=0):(wrE m l h=0/\wrE m l hAll=0/\rdE m (wrV m l hAll)=0/\(rdV m (wrV m l hAll)).Durs=durB l/\(l.length:Int)<=((wrV m l h).length:Int))\/(wrE m l h=18/\(wrE m l hAll=0\/wrE m l hAll=18)):=by
 have V:=zuG Z;have J:=ziB Z;have Q:hbL h hAll=true:=znU.2 ⟨λ_=>rfl,λ_=>rfl,λ_=>rfl⟩;have H:=znZ Q m l;have G:¬4096<cnP m hAll l:=λI=>by have:=(zqW (h:=hAll) V (by omega) I).1;rw[this]at Z;cases Z
 have N:wcnE m l h=0:=(zol V (by omega) (by omega)).1;have hs:=(zsv Q m l).length_le;by_cases e:(wyL m l h).length=0
 ·refine .inr ⟨zuH V N U e,?_⟩;by_cases e2:(wyL m l hAll).length=0
  ·exact .inr (zuH V Z U e2)
  ·obtain⟨u,T⟩:∃u,(wyL m l hAll)[0]? =some u:=⟨_,lgg (by omega)⟩;exact .inl (zmU V Z U T).1
 ·obtain⟨u,T⟩:∃u,(wyL m l h)[0]? =some u:=⟨_,lgg (by omega)⟩;obtain⟨v,hv⟩:∃v,(wyL m l hAll)[0]? =some v:=⟨_,lgg (by omega)⟩;have a1:=zmU V N U T;have a2:=zmU V Z U hv;have b1:=zqj (j6 T);have b2:=zqj (j6 hv);rw[a1.2,a2.2];refine .inl ⟨a1.1,a2.1,b2.2.2.1,b2.2.2.2,?_⟩;have c:=zlc u;rw[b1.1,jX]at c;omega
def zwj(m:Mn)(nums:List Int):((roL m nums 12).length:Int)<=12:=zkv m nums (most:=12) (by decide) nums.length
def zwk{m:Mn}{l:List Bt}{h:Hb}(Z:(wrE m l h=0/\wrE m l hAll=0/\rdE m (wrV m l hAll)=0/\(rdV m (wrV m l hAll)).Durs=durB l/\(l.length:Int)<=((wrV m l h).length:Int))\/(wrE m l h=18/\(wrE m l hAll=0\/wrE m l hAll=18)))(c:wrE m l h=0):wrE m l hAll=0/\rdE m (wrV m l hAll)=0/\(rdV m (wrV m l hAll)).Durs=durB l/\(l.length:Int)<=((wrV m l h).length:Int):=by
 rcases Z with V|V
 ·exact V.2
 ·rw[V.1]at c;cases c
def zwl{m:Mn}{l:List Bt}{h:Hb}(Z:(wrE m l h=0/\wrE m l hAll=0/\rdE m (wrV m l hAll)=0/\(rdV m (wrV m l hAll)).Durs=durB l/\(l.length:Int)<=((wrV m l h).length:Int))\/(wrE m l h=18/\(wrE m l hAll=0\/wrE m l hAll=18)))(c:¬wrE m l h=0):wrE m l h=18/\(wrE m l hAll=0\/wrE m l hAll=18):=by
 rcases Z with V|V
 ·exact absurd V.1 c
 ·exact V
attribute [local irreducible] Pur yA yC Ex X Fn Imp LeV LeB FnO It yH FnW FnOW FnP FnD
attribute [local irreducible] wcnE wcnV wrE wrV rdE rdV bsV zbV rsL maV roL durB mMk
set_option maxHeartbeats 4000000 in
def zf0(m:Mn)(nums:List Int)(q:Nat)(hq:q<=1000)(hr:∀x,x∈nums->-9223372036854775808<=x/\x<=9223372036854775807)(H:nums.length<=maxLen):Fn prog 28 [mnA m,yc nums,iv (q:Int)] (btsA (maV m nums q)):=by
 have G:=zgE m nums 12 (by decide) (by decide) hr H;have x1:=zwj m nums;have U:maV m nums q=if rdE m (roL m nums 12)=0 then(bsV m (roL m nums 12)).take q else[]:=by unfold maV;rfl
 generalize roL m nums 12=r at*
 have E:[]=zbV (rdV m r).Durs (rsL (r.take 0)):=by unfold rsL;exact zze _
 refine kF func28 ntmps28 (λg w d=>?_);refine gc G ?_;refine gc (zcM m r (by omega)) ?_;refine gd ?_ ?_<;>intro xT
 ·have T:maV m nums q=[]:=by rw[U,j4 xT]
  apply ye;refine yh ?_;refine kE ?_;refine kA (yd (ts:=[(6,btsA [])]) (hs:=[])) ?_;refine gq ?_;all_goals(first|exact zE T|exact j5 (λz=>btsA z) T.symm|rfl)
 have h0:rdE m r=0:=by omega
 rw[j3 h0]at U;have x0:=zq2 h0;apply yk;apply ye;refine yh ?_;iterate 2 apply yf
 refine kJ (yI btE 100 3 10 30 rfl rfl) ?_;apply yj;refine yh ?_;apply kB;refine zM (λk=>[(2,iv (q:Int)),(7,sgsA r),(8,tmsA (rdV m r).Durs),(11,iv (k:Int)),(10,.own 30)]) (λk=>[(3,.box (mnE m) 23),(30,.row btE ((zbV (rdV m r).Durs (rsL (r.take k)))) 100 3)]) (λk=>k<=r.length/\(zbV (rdV m r).Durs (rsL (r.take k))).length<=q) r.length (λk hk=>?_) (hJ:=by exact⟨w7 _,by rw[←E];exact w7 _⟩);obtain⟨w2,Q⟩:=hk;apply yf;apply ye;iterate 4 refine ya ?_
 refine kI 4 ?_;refine yp ?_;iterate 4 refine kG ?_
 refine gf ?_ ?_<;>intro v9
 ·obtain⟨s,hs⟩:∃s,r[k]? =some s:=⟨_,lgg (by omega)⟩;have v8:r[(k:Int).toNat]? =some s:=by simpa using hs
  have v5:=zm7 r k;have x4:=zle (rdV m r).Durs (rsL (r.take k)) (by omega);have v4:(rsL (r.take k)).length<=1000:=jQ (zlc _) (by rw[jM];omega);apply yk;apply yf;apply kB;apply ye;iterate 6 refine ya ?_
  refine kI 6 ?_;refine yp ?_;iterate 5 refine kG ?_
  refine gf ?_ ?_<;>intro N
  ·have Z:=zlb hs N.1;obtain⟨t,ht⟩:∃t,(rdV m r).Durs[(rsL (r.take k)).length]? =some t:=⟨_,lgg (by omega)⟩;have J:=zu6 (r:=decide (s.Kind=2)) ht;rw[Z]at J;have V:(zbV (rdV m r).Durs (rsL (r.take (k+1)))).length<=q:=by rw[←J,jE,xH];omega
   have v3:(rdV m r).Durs[((List.replicate (zbV (rdV m r).Durs (rsL (r.take k))).length ()).length:Int).toNat]? =some t:=by rw[List.length_replicate,x4];simpa using ht
   have v1:=List.length_replicate (n:=(zbV (rdV m r).Durs (rsL (r.take k))).length) (a:=());have x2:=(j1.1 ht).1;refine kW [⟨1,49,tmsA (rdV m r).Durs,[]⟩,⟨2,50,.sl uE (List.replicate (zbV (rdV m r).Durs (rsL (r.take k))).length ()),[]⟩,⟨3,51,iv ((List.replicate (zbV (rdV m r).Durs (rsL (r.take k))).length ()).length:Int),[2]⟩,⟨4,52,.ept tmE t 0,[2,3,1]⟩,⟨5,53,tmA t,[2,3,1,4]⟩,⟨6,54,sgsA r,[]⟩,⟨7,55,iv (k:Int),[]⟩,⟨8,56,.ept sgE s 0,[7,6]⟩,⟨9,57,.ept sgE s (0+0),[7,6,8]⟩,⟨10,58,iv s.Kind,[7,6,8,9]⟩,⟨11,59,.bool (decide (s.Kind=2)),[7,6,8,9,10]⟩,⟨12,60,btA ⟨t,decide (s.Kind=2)⟩,[7,6,8,2,9,3,1,10,4,11,5]⟩,⟨13,61,btsA [⟨t,decide (s.Kind=2)⟩],[7,6,8,2,9,3,1,10,4,11,5,12]⟩] [(0,[]),(14,[7,6,8,2,9,3,1,10,4,11,5,12,13,0]),(15,[13,12,11,10,9,8,7,6,5,4,3,2,1,0,14])] (λj=>match j with|0=>⟨[(2,iv (q:Int)),(7,sgsA r),(8,tmsA (rdV m r).Durs),(11,iv (k:Int)),(10,.own 30)],[(3,.box (mnE m) 23),(30,.row btE ((zbV (rdV m r).Durs (rsL (r.take k)))) 100 3)]⟩|1=>⟨[(2,iv (q:Int)),(7,sgsA r),(8,tmsA (rdV m r).Durs),(11,iv (k:Int)),(10,.own 30),(48,.own 30)],[(3,.box (mnE m) 23),(30,.row btE ((zbV (rdV m r).Durs (rsL (r.take k)))) 100 3)]⟩|2=>⟨[(2,iv (q:Int)),(7,sgsA r),(8,tmsA (rdV m r).Durs),(11,iv (k:Int)),(62,.own 30)],[(3,.box (mnE m) 23),(30,.row btE ((zbV (rdV m r).Durs (rsL (r.take k)))++[⟨t,decide (s.Kind=2)⟩]) 100 3)]⟩|_=>⟨[(2,iv (q:Int)),(7,sgsA r),(8,tmsA (rdV m r).Durs),(11,iv (k:Int)),(10,.own 30)],[(3,.box (mnE m) 23),(30,.row btE ((zbV (rdV m r).Durs (rsL (r.take k)))++[⟨t,decide (s.Kind=2)⟩]) 100 3)]⟩) mo (by kernel_rfl) (zg (yd)) (λj hj=>?_) (λj c I β hβ=>?_) ?_
   ·rcases j with _|_|_|_|j
    ·refine⟨.inr ⟨_,rfl,rfl,rfl,rfl,k8 yJ⟩,?_⟩;refine⟨.inr ⟨_,rfl,rfl,rfl,rfl,k8 (ziv rfl rfl)⟩,?_⟩;(iterate 10 refine⟨.inr ⟨_,rfl,rfl,rfl,rfl,k8 yJ⟩,?_⟩);refine⟨.inr ⟨_,rfl,rfl,rfl,rfl,yu (enc:=btE) (l:=[⟨t,decide (s.Kind=2)⟩]) sl24 zfK zjn (by decide) rfl rfl rfl rfl (by decide) (by decide) (λ_=>rfl) rfl⟩,?_⟩;exact True.intro
    ·refine⟨.inr ⟨_,rfl,rfl,rfl,rfl,k8 yJ⟩,?_⟩;refine⟨.inr ⟨_,rfl,rfl,rfl,rfl,k8 (ziv rfl rfl)⟩,?_⟩;(iterate 10 refine⟨.inr ⟨_,rfl,rfl,rfl,rfl,k8 yJ⟩,?_⟩);refine⟨.inr ⟨_,rfl,rfl,rfl,rfl,yu (enc:=btE) (l:=[⟨t,decide (s.Kind=2)⟩]) sl24 zfK zjn (by decide) rfl rfl rfl rfl (by decide) (by decide) (λ_=>rfl) rfl⟩,?_⟩;exact True.intro
    ·exact yw
    ·exact yw
    ·exact absurd (show j+4<=3 from hj) (by omega)
   ·rcases j with _|_|_|j
    ·obtain rfl:(0,[])=c:=by injection I
     refine yo rfl (yn (st0:=⟨[(49,.ifb (β 1) (tmsA (rdV m r).Durs)),(50,.ifb (β 2) (.sl uE (List.replicate (zbV (rdV m r).Durs (rsL (r.take k))).length ()))),(51,.ifb (β 3) (iv ((List.replicate (zbV (rdV m r).Durs (rsL (r.take k))).length ()).length:Int))),(52,.ifb (β 4) (.ept tmE t 0)),(53,.ifb (β 5) (tmA t)),(54,.ifb (β 6) (sgsA r)),(55,.ifb (β 7) (iv (k:Int))),(56,.ifb (β 8) (.ept sgE s 0)),(57,.ifb (β 9) (.ept sgE s (0+0))),(58,.ifb (β 10) (iv s.Kind)),(59,.ifb (β 11) (.bool (decide (s.Kind=2)))),(60,.ifb (β 12) (btA ⟨t,decide (s.Kind=2)⟩)),(61,.ifb (β 13) (btsA [⟨t,decide (s.Kind=2)⟩])),(2,iv (q:Int)),(7,sgsA r),(8,tmsA (rdV m r).Durs),(11,iv (k:Int)),(10,.own 30)],[(3,.box (mnE m) 23),(30,.row btE ((zbV (rdV m r).Durs (rsL (r.take k)))) 100 3)]⟩) (yl) ?_);refine yC.imp (yK (k8 (zlh rfl)) rfl rfl) (yl)
    ·obtain rfl:(14,[7,6,8,2,9,3,1,10,4,11,5,12,13,0])=c:=by injection I
     refine yo rfl (yn (st0:=⟨[(49,tmsA (rdV m r).Durs),(50,.sl uE (List.replicate (zbV (rdV m r).Durs (rsL (r.take k))).length ())),(51,iv ((List.replicate (zbV (rdV m r).Durs (rsL (r.take k))).length ()).length:Int)),(52,.ept tmE t 0),(53,tmA t),(54,sgsA r),(55,iv (k:Int)),(56,.ept sgE s 0),(57,.ept sgE s (0+0)),(58,iv s.Kind),(59,.bool (decide (s.Kind=2))),(60,btA ⟨t,decide (s.Kind=2)⟩),(61,btsA [⟨t,decide (s.Kind=2)⟩]),(2,iv (q:Int)),(7,sgsA r),(8,tmsA (rdV m r).Durs),(11,iv (k:Int)),(10,.own 30),(48,.own 30)],[(3,.box (mnE m) 23),(30,.row btE ((zbV (rdV m r).Durs (rsL (r.take k)))) 100 3)]⟩) (yl) ?_);refine yC.imp (y6 rfl rfl rfl SlK.h TiK.h (by decide) (by decide) (λ_=>rfl) (λ_=>rfl) (by first|omega|(simp;done)|(simp;omega)|(simp_all;omega)) rfl) (yl)
    ·obtain rfl:(15,[13,12,11,10,9,8,7,6,5,4,3,2,1,0,14])=c:=by injection I
     refine yo rfl (yn (st0:=⟨[(49,tmsA (rdV m r).Durs),(50,.sl uE (List.replicate (zbV (rdV m r).Durs (rsL (r.take k))).length ())),(51,iv ((List.replicate (zbV (rdV m r).Durs (rsL (r.take k))).length ()).length:Int)),(52,.ept tmE t 0),(53,tmA t),(54,sgsA r),(55,iv (k:Int)),(56,.ept sgE s 0),(57,.ept sgE s (0+0)),(58,iv s.Kind),(59,.bool (decide (s.Kind=2))),(60,btA ⟨t,decide (s.Kind=2)⟩),(61,btsA [⟨t,decide (s.Kind=2)⟩]),(2,iv (q:Int)),(7,sgsA r),(8,tmsA (rdV m r).Durs),(11,iv (k:Int)),(62,.own 30)],[(3,.box (mnE m) 23),(30,.row btE ((zbV (rdV m r).Durs (rsL (r.take k)))++[⟨t,decide (s.Kind=2)⟩]) 100 3)]⟩) (yl) ?_);refine yC.imp (yK (k8 (za6 rfl)) rfl rfl) (yl)
    ·exact absurd I (by simp)
   refine gq ?_;refine yz (k+1) (hJ:=by exact⟨by omega,V⟩) (hI:=yi)
  ·have h3:s.Kind=3:=by
    apply wI;intro hn;have Z:=zlb hs hn;have x3:=zm7 r (k+1);rw[←Z,jE,xH]at x3;rcases N with h|h
    ·exact hn h
    ·omega
   have Z:=j5 (zbV (rdV m r).Durs) (zla hs h3);have V:(zbV (rdV m r).Durs (rsL (r.take (k+1)))).length<=q:=by rw[←Z];exact Q
   refine gq ?_;refine yz (k+1) (hJ:=by exact⟨by omega,V⟩) (hI:=yi)
 ·have T:=U.trans (zsJ h0 Q (by omega)).symm;apply kO;apply ye;refine yO ?_;refine kE ?_;refine kA (k9 (k:=30) rfl) ?_;refine gq ?_;all_goals(first|exact zE T|exact j5 (λz=>btsA z) T.symm|rfl)
set_option maxHeartbeats 8000000 in
def C_tactuslaw23_WriteMore(n:Int)(nums:List Int)(h:Hb)(hn:-9223372036854775808<=n/\n<=9223372036854775807)(hr:∀x,x∈nums->-9223372036854775808<=x/\x<=9223372036854775807)(Q:nums.length<=maxLen):Fn prog 6 [iv n,yc nums,hbA h] (.bool true):=by
 have hm:=zg1 n hn;have hM:=zvy n;generalize mMk n=m at hm hM;have xT:=zsH m nums 4;have N:=zf0 m nums 4 (by decide) hr Q;generalize maV m nums 4=l at*
 refine kF func6 ntmps6 (λg w d=>?_);refine gc zdr ?_;refine gc hm ?_;refine gd ?_ ?_<;>intro x4
 ·refine gq ?_;all_goals rfl
 refine gc N ?_;refine yW [10,11,28,29,30,31,32,33,34] [0,0,0,7,15,31,31,63,255] mo ?_;iterate 2 refine yb ?_
 refine yL zo ?_;refine yL (za2 m l hAll (by omega)) ?_;iterate 5 refine yb ?_
 refine yF ?_;apply kQ;apply yf;apply ye;iterate 2 refine ya ?_
 refine kI 2 ?_;refine yp ?_;iterate 2 refine kG ?_
 refine gf ?_ ?_<;>intro x3
 ·refine gq ?_;all_goals rfl
 have V:=zsK h (zv9 hM) (show wcnE m l hAll=0 by omega);have x2:=zsA m l hAll;refine gc (zb3 m l h (by omega)) ?_;refine yW [14,15,49,50,51,52,53,54,55] [0,0,0,7,15,31,31,63,255] mo ?_;iterate 2 refine yb ?_
 refine yL zo ?_;refine yL (zb3 m l hAll (by omega)) ?_;iterate 5 refine yb ?_
 refine yF ?_;refine gd ?_ ?_<;>intro U
 ·have J:=zwk V U;obtain⟨Z,I,T,H⟩:=J;refine gq ?_;refine yP (zhr m (wrV m l hAll) (by omega)) ?_;iterate 5 refine ya ?_
  apply yG;refine ya ?_;refine kI 1 ?_;refine gq ?_;refine bA (zei l (by omega)) ?_;refine bA (zea (rdV m (wrV m l hAll)).Durs (durB l) (by rw[T,zeG];omega)) ?_;iterate 2 refine yp ?_
  iterate 5 refine kG ?_
  refine ge ?_;all_goals(simp[Z,I,T,H])
 have G:=zwl V U;obtain⟨E,Z⟩:=G;apply yk;apply ye;refine ya ?_;refine kI 1 ?_;refine yp ?_;iterate 2 refine kG ?_
 iterate 2 refine yp ?_
 iterate 6 refine kG ?_
 refine ge ?_;all_goals(rcases Z with e|e<;>simp[E,e])
end
end Go.Rse
namespace Go.Rse
open Go Go.RowKit Go.Proofs.Tryz
section
section
variable{P:Program}{C:Ctx}{st:St}{ty:TypeId}
def zkS{t:TypeId}{s:ByteArray}{x y:Operand}{kk:IntKind}{i:Int}(ht:P.underlying t=some .string)(hx:ev st x=some (.str s))(Z:ev st y=some (.int kk i))(h0:0<=i)(V:i.toNat<s.size):
 Pur P C (.index t x y) ty st (.int .u8 ((s[i.toNat]'V).toNat:Int)):=λg a w dst pos af gd hr=>by
 have ex:=zfc (yy hr hx);have ey:=y7 (yy hr Z);refine⟨.int .u8 ((s[i.toNat]'V).toNat:Int),?_,.int _ _⟩;simp[execOp,Instr.index,asIntOf,ex,ey,run_underlying ht,h0,V]
def zbW{t:TypeId}{s:ByteArray}{x:Operand}(ht:P.underlying t=some .string)(hx:ev st x=some (.str s)):
 Pur P C (.call {callee:=.builtin .len,args:= #[x],argTypes:= #[t]}) ty st (.int .i64 s.size):=λg a w dst pos af gd hr=>by
 have ex:=zfc (yy hr hx);refine⟨.int .i64 s.size,?_,.int _ _⟩;simp[execOp,resolve,invoke,builtin,ex,Builtin.len_,run_underlying ht,Result.andThen];rfl
end
end
section
section
variable{P:Program}{C:Ctx}{st:St}{ty:TypeId}
def zo3{t:TypeId}{x y:Operand}{yt:TypeId}{p q:ByteArray}(hx:ev st x=some (.str p))(Z:ev st y=some (.str q)):Pur P C (.binOp .eql t x y yt) ty st (.bool (p.toList==q.toList)):=λg a w dst pos af gd hr=>by
 refine⟨.bool (p.toList==q.toList),?_,.bool _⟩;have e1:=zfc (yy hr hx);have e2:=zfc (yy hr Z);have V:(eqGuard .eql t x y (.string p) (.string q)).run P w=.ok () w:=by unfold eqGuard;simp
 have U:(Op.stringOp .eql p q).run P w=.ok (.bool (p.toList==q.toList)) w:=by simp[Op.stringOp]
 simp only[execOp,e1,e2,jK,V,j9,binOp,U,jL]
def zo4{t:TypeId}{x y:Operand}{yt:TypeId}{p q:ByteArray}(hx:ev st x=some (.str p))(Z:ev st y=some (.str q)):Pur P C (.binOp .neq t x y yt) ty st (.bool (p.toList !=q.toList)):=λg a w dst pos af gd hr=>by
 refine⟨.bool (p.toList !=q.toList),?_,.bool _⟩;have e1:=zfc (yy hr hx);have e2:=zfc (yy hr Z);have V:(eqGuard .neq t x y (.string p) (.string q)).run P w=.ok () w:=by unfold eqGuard;simp
 have U:(Op.stringOp .neq p q).run P w=.ok (.bool (p.toList !=q.toList)) w:=by simp[Op.stringOp,bne]
 simp only[execOp,e1,e2,jK,V,j9,binOp,U,jL]
end
def bsB(s:ByteArray):List Int:=s.data.toList.map λx=>(x.toNat:Int)
def zqx(s:ByteArray):(bsB s).length=s.size:=by unfold bsB;simp
def zyD{s:ByteArray}{i:Nat}(h:i<s.size):(bsB s).getD i 0=((s[i]'h).toNat:Int):=by
 have Z:i<s.data.toList.length:=by simpa using h
 unfold bsB;rw[j8,jO,lgg Z];rfl
def zas{P:Program}{C:Ctx}{st:St}{ty:TypeId}{t:TypeId}{s:ByteArray}{x y:Operand}{kk:IntKind}{i:Int}(ht:P.underlying t=some .string)(hx:ev st x=some (.str s))(V:ev st y=some (.int kk i))(h0:0<=i)(U:i<(s.size:Int)):
 Pur P C (.index t x y) ty st (.int .u8 ((bsB s).getD i.toNat 0)):=by
 have Z:i.toNat<s.size:=by omega
 rw[zyD Z];exact zkS ht hx V h0 Z
def zm0(p:ByteArray):∀(n i:Nat)(r:List UInt8),p.size-i=n->(ByteArray.toList.loop p i r).length=r.length+n
 |0,i,r,h=>by unfold ByteArray.toList.loop;rw[j4 (by omega)];simp
 |n+1,i,r,h=>by
  unfold ByteArray.toList.loop;rw[j3 (by omega),zm0 p n (i+1) _ (by omega)];simp;omega
def zqy(p:ByteArray):(p.toList !=(⟨#[]⟩:ByteArray).toList)=decide (¬p.size=0):=by
 have Z:p.toList.length=p.size:=by unfold ByteArray.toList;rw[zm0 p p.size 0 [] (by omega)];simp
 have V:(⟨#[]⟩:ByteArray).toList=[]:=by
  have:(⟨#[]⟩:ByteArray).toList.length=0:=by unfold ByteArray.toList;rw[zm0 _ 0 0 [] rfl];rfl
  exact jN this
 rw[V,bne,Bool.eq_iff_iff,wF,jU,beq_eq_false_iff_ne];constructor
 ·intro h e;exact h (jN (by omega))
 ·intro h e;rw[e]at Z;simp at Z;omega
def lwB(c:Int):Bool:=decide (97<=c)&&decide (c<=122)
def dcB(c:Int):Bool:=decide (48<=c)&&decide (c<=57)
def nkB(c:Int):Bool:=lwB c||dcB c||decide (c=45)
def nmQ(l:List Int):Bool:=l.all nkB&&(decide (0<l.length)&&decide (l.length<=20)&&lwB (l.getD 0 0))
def zyE{c:Int}(h:(c<97\/122<c)/\(c<48\/57<c)/\¬c=45):nkB c=false:=by
 unfold nkB lwB dcB;simp;omega
def zyF{c:Int}(h:¬((c<97\/122<c)/\(c<48\/57<c)/\¬c=45)):nkB c=true:=by
 unfold nkB lwB dcB;simp;omega
def zqz{l:List Int}{k:Nat}(Z:k<l.length)(h:nkB (l.getD k 0)=false):nmQ l=false:=by
 have hm:l.getD k 0∈l:=by rw[j8,lgg Z];exact uM Z
 unfold nmQ;rw[u7];left;rw[List.all_eq_false];exact⟨_,hm,by rw[h];simp⟩
def zqA{l:List Int}(h:l.all nkB=true):nmQ l=(decide (0<l.length)&&decide (l.length<=20)&&lwB (l.getD 0 0)):=by
 unfold nmQ;rw[h,k6]
def zBy{l:List Int}(h:l.length=0\/20<l.length\/lwB (l.getD 0 0)=false):nmQ l=false:=by
 unfold nmQ;rw[u7];right;rw[u7,u7,jR,jR];rcases h with h|h|h
 ·left;left;omega
 ·left;right;omega
 ·right;exact h
def zyG{l:List Int}{k:Nat}(h:(l.take k).all nkB=true)(Z:k<l.length)(ho:nkB (l.getD k 0)=true):(l.take (k+1)).all nkB=true:=by
 rw[j8,lgg Z]at ho;rw[jF,lgg Z,List.all_append,h];simpa using ho
def zwm(s:ByteArray):((s.toList !=(⟨#[]⟩:ByteArray).toList)&&decide ((s.size:Int)<=20)&&lwB ((bsB s).getD (0:Int).toNat 0))=(decide (0<s.size)&&decide (s.size<=20)&&lwB ((bsB s).getD 0 0)):=by
 rw[zqy,show decide (¬s.size=0)=decide (0<s.size)from decide_eq_decide.2 (by omega),show decide ((s.size:Int)<=20)=decide (s.size<=20)from decide_eq_decide.2 (by omega)];rfl
def zyH{s:ByteArray}{p:Prop}(h:(s.toList !=(⟨#[]⟩:ByteArray).toList)=true/\p):0<s.size:=by
 have h1:=h.1;rw[zqy,jU]at h1;omega
def zyI{c:Int}(h:(lwB c=false/\dcB c=false)/\¬c=45):nkB c=false:=by
 unfold nkB;simp[h.1.1,h.1.2,h.2]
def zyJ{c:Int}(h:(lwB c=true\/dcB c=true)\/c=45):nkB c=true:=by
 unfold nkB;rcases h with(h|h)|h<;>simp[h]
end
end Go.Rse
namespace Go.Rse
open Go Go.Proofs Go.Proofs.Tryz
def muB(m:Mn)(_:Int):Bool:=decide ((meU m).D=1)&&(decide (1<=(meU m).N)&&(decide ((meU m).N<=1000)&&decide (ckT (meU m)=0)))
def zsL:zer muB=true:=by kernel_rfl
def zuS{m:Mn}(hm:ckM m=0):(meU m).D=1/\1<=(meU m).N/\(meU m).N<=1000/\ckT (meU m)=0:=by
 have:=zaS zsL hm (v:=1) (by decide) (by decide);unfold muB at this;simpa using this
def zyK{n d:Int}(h:0<n):gI n d<=n:=by
 unfold gI;have:=Nat.gcd_le_left d.natAbs (show 0<n.natAbs by omega);omega
def zyL{n d:Int}(Z:0<=d)(h:d∣n):gI n d=d:=by
 unfold gI;have:=Nat.gcd_eq_right (Int.natAbs_dvd_natAbs.2 h);omega
def zwn{m:Mn}{s:Tm}(hm:ckM m=0)(hs:ckT s=0):whB (meU m) s=(decide (s.D=1)&&decide (s.N%(meU m).N=0)):=by
 obtain⟨u1,u2,u3,u4⟩:=zuS hm;obtain⟨s0,s1,s2,s3,s4,s5⟩:=z7 hs;have hf:yM [s,meU m]=0:=by simp[yM,hs,u4]
 have H:1<=(meU m).N*s.D:=by have:=xU u2 s4 (by omega) (by omega);simpa using this
 have G:(meU m).N*s.D<=1000*1048576:=xU u3 s3 (by omega) (by omega);have n0:=uH s.N (show(meU m).N*s.D≠0 by omega);have n1:=wW s.N (show 0<(meU m).N*s.D by omega);have J:=zcf (n:=s.N%((meU m).N*s.D)) (d:=s.D) (by omega);have d1:=u0 (gI (s.N%((meU m).N*s.D)) s.D) n0;have d2:=u0 (gI (s.N%((meU m).N*s.D)) s.D) (show 0<=s.D by omega)
 have T:tmkE (s.N%((meU m).N*s.D)) s.D=0:=by
  unfold tmkE;rw[j4 (by omega),j4 (by omega),j4 (by omega)]
 have hE:whE s (meU m)=0:=by
  unfold whE;rw[j3 hf,j4 (by omega),u1,xM,xM];exact T
 have I:(whR s (meU m)).N=s.N%((meU m).N*s.D)/gI (s.N%((meU m).N*s.D)) s.D:=by
  unfold whR;rw[j3 hE,u1,xM,xM];unfold tmkT;rw[j3 T]
 unfold whB;rw[hE,I,jJ rfl,k6,Bool.eq_iff_iff,jU,j7,jU,jU];constructor
 ·intro h
  have h0:s.N%((meU m).N*s.D)=0:=by
   apply wI;intro E;have Q:=zyK (n:=s.N%((meU m).N*s.D)) (d:=s.D) (by omega);have Z:=Int.ediv_le_ediv J Q;rw[Int.ediv_self (by omega)]at Z;omega
  have V:=Int.dvd_of_emod_eq_zero h0;have U:s.D∣s.N:=Int.dvd_trans (Int.dvd_mul_left _ _) V;have Q:=zyL (by omega) U;have Z:s.D=1:=by omega
  rw[Z,xM]at h0;exact⟨Z,h0⟩
 ·rintro⟨V,U⟩
  rw[V,xM,U,Int.zero_ediv]
def zsM(m:Mn):yx m (meV m)=meU m:=rfl
def pmJ(m:Mn):Nat->Int
 |0=>3
 |j+1=>if m.p (4-(j:Int))=3 then 4-(j:Int)else pmJ m j
def pmB(m:Mn)(_:Int):Bool:=decide (pmJ m 4=meV m)&&(decide (1<=meV m)&&decide (meV m<=4))
def zsN:zer pmB=true:=by kernel_rfl
def zwo{m:Mn}(hm:ckM m=0):pmJ m 4=meV m/\1<=meV m/\meV m<=4:=by
 have:=zaS zsN hm (v:=1) (by decide) (by decide);unfold pmB at this;simpa using this
def zyM{m:Mn}{j:Nat}(h:m.p (4-(j:Int))=3):4-(j:Int)=pmJ m (j+1):=by
 show _=(if m.p (4-(j:Int))=3 then 4-(j:Int)else pmJ m j);rw[j3 h]
def zyN{m:Mn}{j:Nat}(h:¬m.p (4-(j:Int))=3):pmJ m j=pmJ m (j+1):=by
 show _=(if m.p (4-(j:Int))=3 then 4-(j:Int)else pmJ m j);rw[j4 h]
def brS(u:Tm)(l:List Bt):Nat->Tm×List Bt×List (List Bt)
 |0=>(⟨0,1⟩,[],[])
 |k+1=>if whB u (addV (brS u l k).1 (l.getD k default).Dur)=true then(⟨0,1⟩,[],(brS u l k).2.2++[(brS u l k).2.1++[l.getD k default]])else(addV (brS u l k).1 (l.getD k default).Dur,(brS u l k).2.1++[l.getD k default],(brS u l k).2.2)
structure BrJ(u:Tm)(l:List Bt)(k:Nat):Prop where
 e:bkE u ⟨0,1⟩ l=bkE u (brS u l k).1 (l.drop k)
 v:bkV u ⟨0,1⟩ [] l=(brS u l k).2.2++bkV u (brS u l k).1 (brS u l k).2.1 (l.drop k)
 n:(brS u l k).2.2.length+(brS u l k).2.1.length<=k
def zyO(u:Tm)(l:List Bt):BrJ u l 0:=⟨rfl,rfl,jD _⟩
def zsO{l:List Bt}{k:Nat}{b:Bt}(Z:l[k]? =some b):l.drop k=b::l.drop (k+1)/\l.getD k default=b:=by
 have V:=j1.1 Z;refine⟨by rw[jG V.1,V.2],?_⟩;rw[j8,Z];rfl
def BrJ.err{u:Tm}{l:List Bt}{k:Nat}{b:Bt}(h:BrJ u l k)(Z:l[k]? =some b)(he:¬addE (brS u l k).1 b.Dur=0):bkE u ⟨0,1⟩ l=addE (brS u l k).1 b.Dur:=by
 rw[h.e,(zsO Z).1];show(if addE (brS u l k).1 b.Dur=0 then _ else _)=_;rw[j4 he]
def zyP{u:Tm}{l:List Bt}{k:Nat}{b:Bt}(Z:l[k]? =some b)(V:whB u (addV (brS u l k).1 b.Dur)=true):brS u l (k+1)=(⟨0,1⟩,[],(brS u l k).2.2++[(brS u l k).2.1++[b]]):=by
 rw[brS,(zsO Z).2,j3 V]
def zyQ{u:Tm}{l:List Bt}{k:Nat}{b:Bt}(Z:l[k]? =some b)(V:¬whB u (addV (brS u l k).1 b.Dur)=true):brS u l (k+1)=(addV (brS u l k).1 b.Dur,(brS u l k).2.1++[b],(brS u l k).2.2):=by
 rw[brS,(zsO Z).2,j4 V]
def BrJ.s{u:Tm}{l:List Bt}{k:Nat}{b:Bt}(h:BrJ u l k)(V:l[k]? =some b)(he:addE (brS u l k).1 b.Dur=0):BrJ u l (k+1):=by
 have U:=h.e;have T:=h.v;have Q:=h.n;rw[(zsO V).1]at U T;by_cases Z:whB u (addV (brS u l k).1 b.Dur)=true
 ·have e:=zyP V Z;refine⟨?_,?_,?_⟩
  ·rw[U,e];show(if addE (brS u l k).1 b.Dur=0 then bkE u (if whB u (addV (brS u l k).1 b.Dur)=true then _ else _) _ else _)=_;rw[j3 he,j3 Z]
  ·rw[T,e];show _++(if whB u (addV (brS u l k).1 b.Dur)=true then _ else _)=_;rw[j3 Z];simp
  ·rw[e];simp;omega
 ·have e:=zyQ V Z;refine⟨?_,?_,?_⟩
  ·rw[U,e];show(if addE (brS u l k).1 b.Dur=0 then bkE u (if whB u (addV (brS u l k).1 b.Dur)=true then _ else _) _ else _)=_;rw[j3 he,j4 Z]
  ·rw[T,e];show _++(if whB u (addV (brS u l k).1 b.Dur)=true then _ else _)=_;rw[j4 Z]
  ·rw[e];simp;omega
def BrJ.fin{u:Tm}{l:List Bt}(h:BrJ u l l.length):bkE u ⟨0,1⟩ l=0/\bkV u ⟨0,1⟩ [] l=(brS u l l.length).2.2++if(brS u l l.length).2.1=[]then[]else[(brS u l l.length).2.1]:=by
 have Z:=h.e;have V:=h.v;rw[wQ]at Z V;exact⟨Z,V⟩
def zBz{u:Tm}{l:List Bt}{k:Nat}{b:Bt}(Z:l[k]? =some b)(V:whB u (addV (brS u l k).1 b.Dur)=true):tmE ⟨0,1⟩=tmE (brS u l (k+1)).1/\[]=(brS u l (k+1)).2.1/\(brS u l k).2.2++[(brS u l k).2.1++[b]]=(brS u l (k+1)).2.2:=by
 rw[zyP Z V];exact⟨rfl,rfl,rfl⟩
def zBA{u:Tm}{l:List Bt}{k:Nat}{b:Bt}(Z:l[k]? =some b)(V:¬whB u (addV (brS u l k).1 b.Dur)=true):tmE (addV (brS u l k).1 b.Dur)=tmE (brS u l (k+1)).1/\(brS u l k).2.1++[b]=(brS u l (k+1)).2.1/\(brS u l k).2.2=(brS u l (k+1)).2.2:=by
 rw[zyQ Z V];exact⟨rfl,rfl,rfl⟩
def zBB{m:Mn}{l:List Bt}{k:Nat}{b:Bt}(c:wcE m l=0)(h:BrJ (meU m) l k)(Z:l[k]? =some b)(he:¬addE (brS (meU m) l k).1 b.Dur=0):blE m l=addE (brS (meU m) l k).1 b.Dur/\blV m l=[]:=by
 have e:blE m l=addE (brS (meU m) l k).1 b.Dur:=by unfold blE;rw[j3 c,h.err Z he]
 exact⟨e,by unfold blV;rw[e,j4 he]⟩
def zBC{m:Mn}{l:List Bt}(c:wcE m l=0)(h:BrJ (meU m) l l.length):blE m l=0/\blV m l=(brS (meU m) l l.length).2.2++if(brS (meU m) l l.length).2.1=[]then[]else[(brS (meU m) l l.length).2.1]:=by
 have e:blE m l=0:=by unfold blE;rw[j3 c,h.fin.1]
 exact⟨e,by unfold blV;rw[j3 e,h.fin.2]⟩
end Go.Rse
