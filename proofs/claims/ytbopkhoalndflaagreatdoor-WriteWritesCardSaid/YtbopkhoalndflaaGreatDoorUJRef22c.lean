/-
  Walks.
-/
import Derived.Test.YtbopkhoalndflaaGreatDoorUJWri4
set_option linter.all false
namespace Go.Rse
open Go Go.Proofs Go.Proofs.Tryz
section
attribute [local irreducible] Pur yA yC Ex X Fn Imp LeV LeB FnO It yH
def mdL(m:Mn)(v y:Int):List Tm:=
 if y=1\/y=8 then[yy m v]
 else if y=2 then(if m.p v=2 then[tmkT ((yy m v).N*3) ((yy m v).D*2)]else[])
 else if y=3 then(rlL m v (5-v).toNat v (yy m v)).filter λx=>!decide (x=yy m v)
 else if y=4 then(if(2<=v/\v<=5)/\m.p (v-1)=3 then[tmkT ((yy m v).N*2) ((yy m v).D*1)]else[])
 else if y=5 then[durT m v]
 else if y=6 then[tmkT ((durT m v).N*3) ((durT m v).D*2)]
 else if y=7 then(if m.p 4=2/\v=4 then[⟨3,2⟩]else if m.p 4=2/\v=5 then[⟨1,2⟩]else[])
 else[]
def duB(m:Mn)(v:Int):Bool:=decide (0<=(durT m v).N)&&decide ((durT m v).N<=1000)&&decide (0<=(durT m v).D)&&decide ((durT m v).D<=1000)
def zs1:zgF duB=true:=by kernel_rfl
def zy4{m:Mn}{v:Int}(hm:ckM m=0)(Z:1<=v)(V:v<=8):0<=(durT m v).N/\(durT m v).N<=1000/\0<=(durT m v).D/\(durT m v).D<=1000:=by
 have h:=zcd zs1 hm Z V;unfold duB at h;simp only[j7,w9]at h;exact⟨h.1.1.1,h.1.1.2,h.1.2,h.2⟩
def zqR{L:List Tm}{F u:Tm}{k:Nat}(h:L[k]? =some u):(L.take (k+1)).filter (λx=>!decide (x=F))=(L.take k).filter (λx=>!decide (x=F))++(if u=F then[]else[u]):=by
 rw[jA,h,wR];by_cases e:u=F<;>simp[e]
attribute [local irreducible] cmpV subV yy insT rlN rlL tmkT durT mdL
set_option maxHeartbeats 4000000 in
def zge(m:Mn)(hm:ckM m=0)(s:Sp)(V:1<=s.Value)(U:s.Value<=8)(k4:1<=s.Way)(k3:s.Way<=8):Fn prog 174 [mnA m,spA s] (tmsA (mdL m s.Value s.Way)):=by
 have hF:=zzS hm V U;have j2:=hF.n;have j0:=hF.n1;have hZ:=hF.d;have hY:=(zap hF.ck).2.2.2.2.1;obtain⟨hX,hW,hU,hT⟩:=zy4 hm V U;have Q:=zgG m s.Value;rw[znh hm V U,j4 rfl]at Q;obtain⟨D,hD⟩:∃D,D=rlL m s.Value (5-s.Value).toNat s.Value (yy m s.Value):=⟨_,rfl⟩;have I:=zgq m hm s.Value V (5-s.Value).toNat s.Value (yy m s.Value) rfl V U;rw[←hD]at I;have v4:=ziv m s.Value (5-s.Value).toNat s.Value (yy m s.Value);rw[←hD]at v4;have hQ:3^(5-s.Value).toNat<=3^4:=vJ (by decide) (by omega);have hP:3^4=81:=rfl;refine kC func174 ntmps174 (λg w d=>?_);refine gc (zM hm V U) ?_;refine yM Q ?_;iterate 3 refine ya ?_
 refine zb ?_;refine kI ?_;refine yi ?_;apply yf;apply ye;refine yL ?_;apply kA;refine zck ⟨[(2,.ptr 2 0 0 0),(5,iv s.Value),(6,.ptr 6 0 0 0),(8,.ptr 8 0 0 0),(28,iv s.Way),(29,.bool (decide (s.Way=1\/s.Way=8)))],[(2,.box (mnE m) 23),(6,.box (tmE (yy m s.Value)) 83),(8,.box (tmE (durT m s.Value)) 83)]⟩ (λH=>?_) ?_
 ·refine gd ?_ ?_<;>intro E
  ·have hb:decide (s.Way=1)=decide (s.Way=1\/s.Way=8):=by simp[E]
   apply yl;exact kJ yg H
  ·have hb:decide (s.Way=8)=decide (s.Way=1\/s.Way=8):=by simp[E]
   apply yj;refine yL ?_;exact kJ yg H
 refine zxz rfl ?_ ?_<;>intro v3
 ·have Z:[yy m s.Value]=mdL m s.Value s.Way:=by unfold mdL;rw[j4 v3]
  refine gq ?_;refine yz tmE [yy m s.Value] ?_;refine yi ?_;refine kE ?_;refine k8 (k9 (k:=33) rfl) ?_;refine gq ?_;all_goals(first|exact j6 tmsA Z|rfl)
 refine gd ?_ ?_<;>intro v1
 ·have xT:s.Way=2:=v1;refine gc (y4 m s.Value) ?_;refine gd ?_ ?_<;>intro x4
  ·have Z:[tmkT ((yy m s.Value).N*3) ((yy m s.Value).D*2)]=mdL m s.Value s.Way:=by unfold mdL;rw[j3 (by omega),j4 xT,j4 x4]
   refine gc (zaT (yy m s.Value) 3 2 (by omega) (by omega)) ?_;all_goals exact j6 tmsA Z
  have Z:[]=mdL m s.Value s.Way:=by unfold mdL;rw[j3 (by omega),j4 xT,j3 x4]
  apply yl;apply ye;refine yi ?_;refine kE ?_;refine k8 (yd (ts:=[(4,tmsA [])]) (hs:=[])) ?_;refine gq ?_;all_goals(first|exact j6 tmsA Z|rfl)
 ·refine gd ?_ ?_<;>intro v0
  ·have u3:s.Way=3:=v0;apply ye;refine yi ?_;apply yf;refine kJ (yE tmE 83 2 10 10 rfl rfl) ?_;refine gq ?_;refine yM I ?_;refine yi ?_;apply yf;apply ye;refine yi ?_;apply kA;have hM:[]=(D.take 0).filter (λx=>!decide (x=yy m s.Value)):=by simp
   refine ze (λk=>[(6,.ptr 6 0 0 0),(10,.own 10),(11,tmsA D),(12,iv (k:Int))]) (λk=>[(6,.box (tmE (yy m s.Value)) 83),(10,.row tmE ((D.take k).filter (λx=>!decide (x=yy m s.Value))) 83 2)]) D.length (λk hk=>?_);refine gd ?_ ?_<;>intro hK
   ·obtain⟨u,hu⟩:∃u,D[k]? =some u:=⟨_,lgg (by omega)⟩;have hG:D[(k:Int).toNat]? =some u:=by simpa using hu
    have T:=zqR (F:=yy m s.Value) hu;have hC:=wF (λx=>!decide (x=yy m s.Value)) (D.take k);have h9:(D.take k).length<=D.length:=by rw[jL];omega
    refine gq ?_;refine yQ [55,56,57,58,59,60] [0,0,3,7,0,31] mo ?_;(iterate 6 refine yb ?_);refine yx ?_;refine gd ?_ ?_<;>intro x3
    ·rw[j3 x3]at T;have x2:=T.symm;refine gq ?_;refine yz tmE [u] ?_;refine gq ?_;refine yo (k+1) (hI:=yg)
    ·rw[j4 x3,w4]at T;have x2:=T.symm;refine gq ?_;refine yo (k+1) (hI:=yg)
   ·have u2:k=D.length:=by omega
    subst u2;have Z:(D.take D.length).filter (λx=>!decide (x=yy m s.Value))=mdL m s.Value s.Way:=by unfold mdL;rw[j3 (by omega),j3 (by omega),j4 u3,j9,hD]
    apply kK;apply ye;refine yL ?_;refine kE ?_;refine k8 (k9 (k:=10) rfl) ?_;refine gq ?_;all_goals(first|exact j6 tmsA Z|rfl)
  refine gd ?_ ?_<;>intro u1
  ·have x1:s.Way=4:=u1;apply ye;(iterate 2 refine ya ?_);refine kG 2 ?_;refine gq ?_;refine kQ (y4 m (s.Value-1)) ?_;refine kF ?_;refine gf ?_ ?_<;>intro k5
   ·have Z:[tmkT ((yy m s.Value).N*2) ((yy m s.Value).D*1)]=mdL m s.Value s.Way:=by unfold mdL;rw[j3 (by omega),j3 (by omega),j3 (by omega),j4 x1,j4 k5]
    refine gc (zaT (yy m s.Value) 2 1 (by omega) (by omega)) ?_;all_goals exact j6 tmsA Z
   have Z:[]=mdL m s.Value s.Way:=by unfold mdL;rw[j3 (by omega),j3 (by omega),j3 (by omega),j4 x1,j3 (by omega)]
   apply yl;apply ye;refine yi ?_;refine kE ?_;refine k8 (yd (ts:=[(4,tmsA [])]) (hs:=[])) ?_;refine gq ?_;all_goals(first|exact j6 tmsA Z|rfl)
  ·refine gd ?_ ?_<;>intro x0
   ·have Z:[durT m s.Value]=mdL m s.Value s.Way:=by unfold mdL;rw[j3 (by omega),j3 (by omega),j3 (by omega),j3 (by omega),j4 x0]
    refine gq ?_;refine yz tmE [durT m s.Value] ?_;refine yi ?_;refine kE ?_;refine k8 (k9 (k:=89) rfl) ?_;refine gq ?_;all_goals(first|exact j6 tmsA Z|rfl)
   refine gd ?_ ?_<;>intro w2
   ·have Z:[tmkT ((durT m s.Value).N*3) ((durT m s.Value).D*2)]=mdL m s.Value s.Way:=by unfold mdL;rw[j3 (by omega),j3 (by omega),j3 (by omega),j3 (by omega),j3 (by omega),j4 w2]
    refine gc (zaT (durT m s.Value) 3 2 (by omega) (by omega)) ?_;all_goals exact j6 tmsA Z
   refine gd ?_ ?_<;>intro v9
   ·have J:s.Way=7:=v9;refine gq ?_;refine yM (y4 m 4) ?_;refine ya ?_;refine kG 3 ?_;refine yn ?_;(iterate 2 refine kF ?_);refine gf ?_ ?_<;>intro v8
    ·have Z:[⟨3,2⟩]=mdL m s.Value s.Way:=by unfold mdL;rw[j3 (by omega),j3 (by omega),j3 (by omega),j3 (by omega),j3 (by omega),j3 (by omega),j4 J,j4 v8]
     refine gq ?_;refine yz tmE [⟨3,2⟩] ?_;refine yi ?_;refine kE ?_;refine k8 (k9 (k:=104) rfl) ?_;refine gq ?_;all_goals(first|exact j6 tmsA Z|rfl)
    refine gq ?_;refine yM (y4 m 4) ?_;refine ya ?_;refine kG 3 ?_;refine yn ?_;(iterate 2 refine kF ?_);refine gf ?_ ?_<;>intro v5
    ·have Z:[⟨1,2⟩]=mdL m s.Value s.Way:=by unfold mdL;rw[j3 (by omega),j3 (by omega),j3 (by omega),j3 (by omega),j3 (by omega),j3 (by omega),j4 J,j3 (by omega),j4 v5]
     refine gq ?_;refine yz tmE [⟨1,2⟩] ?_;refine yi ?_;refine kE ?_;refine k8 (k9 (k:=113) rfl) ?_;refine gq ?_;all_goals(first|exact j6 tmsA Z|rfl)
    have Z:[]=mdL m s.Value s.Way:=by unfold mdL;rw[j3 (by omega),j3 (by omega),j3 (by omega),j3 (by omega),j3 (by omega),j3 (by omega),j4 J,j3 (by omega),j3 (by omega)]
    apply yl;apply ye;refine yi ?_;refine kE ?_;refine k8 (yd (ts:=[(4,tmsA [])]) (hs:=[])) ?_;refine gq ?_;all_goals(first|exact j6 tmsA Z|rfl)
   ·omega
end
section
attribute [local irreducible] Pur yA yC Ex X Fn Imp LeV LeB FnO It yH
def mdB(m:Mn)(v:Int):Bool:=(List.range 8).all λi=>zvq (wdL m v (1+i)) (mdL m v (1+(i:Int)))&&decide ((mdL m v (1+(i:Int))).length<=81)
def zs2:zgF mdB=true:=by kernel_rfl
def zwF{m:Mn}{v:Int}(hm:ckM m=0)(V:1<=v)(U:v<=8){i:Nat}(hi:i<8):(∀x,x∈mdL m v (1+(i:Int))↔x∈wdL m v (1+(i:Int)).toNat)/\(mdL m v (1+(i:Int))).Pairwise ltT/\(mdL m v (1+(i:Int))).length<=81:=by
 have h:=jF.1 (show(List.range 8).all _=true from zcd zs2 hm V U) i (wY.2 hi);rw[j7]at h;have Z:=h.1;unfold zvq at Z;simp only[j7,jF,w9]at Z;rw[show(1+(i:Int)).toNat=1+i by omega];exact⟨λx=>⟨Z.1.2 x,λhx=>(Z.1.1 x hx).2⟩,Z.2,of_decide_eq_true h.2⟩
attribute [local irreducible] cmpV subV yy insT rlN rlL tmkT durT mdL wdL alO alI allE bthE zdf
set_option maxHeartbeats 4000000 in
def zgR(m:Mn)(t:Tm):Fn prog 127 [mnA m,tmA t] (.tup [spsA (allE m t),iv (bthE m t)]):=by
 refine kC func127 ntmps127 (λg w d=>?_);refine gc (zgp m t) ?_;refine gd ?_ ?_<;>intro Z
 ·have I:[]=allE m t:=by unfold allE;rw[j3 Z]
  apply ye;refine yq ?_;refine kE ?_;refine k8 (yd (ts:=[(4,spsA []),(5,iv (bthE m t))]) (hs:=[])) ?_;refine yh ?_ ?_;all_goals(first|exact j6 spsA I|rfl|exact j6 (AV.int .i64) Z.symm)
 apply yl;apply ye;refine yi ?_;iterate 2 apply yf
 refine kJ (yE spE 155 5 7 7 rfl rfl) ?_;apply yj;refine yi ?_;apply kA;have x1:[]=alO m t 0:=by unfold alO;rfl
 have T:=(zrf Z).1;refine ze (λj=>[(2,.ptr 2 0 0 0),(3,.ptr 3 0 0 0),(7,.own 7),(8,iv (1+(j:Int)))]) (λj=>[(2,.box (mnE m) 23),(3,.box (tmE t) 83),(7,.row spE (alO m t j) 155 5)]) 8 (λj hk=>?_);refine gd ?_ ?_<;>intro x0
 ·apply yl;apply yf;apply kA;apply ye;refine yi ?_;apply kA;have w2:alO m t j=alO m t j++alI m t (1+(j:Int)) (1+0):=by unfold alI;simp[alI]
  have v9:=zio m t j;refine ze (λi=>[(2,.ptr 2 0 0 0),(3,.ptr 3 0 0 0),(7,.own 7),(8,iv (1+(j:Int))),(9,iv (1+(i:Int)))]) (λi=>[(2,.box (mnE m) 23),(3,.box (tmE t) 83),(7,.row spE (alO m t j++alI m t (1+(j:Int)) (1+i)) 155 5)]) 8 (λi hk=>?_);refine gd ?_ ?_<;>intro v8
  ·obtain⟨Q,N,H⟩:=zwF T (v:=1+(j:Int)) (by omega) (by omega) (i:=i) (by omega);have V:=zge m T (spOf (1+(j:Int)) (1+(i:Int))) (by show 1<=1+(j:Int);omega) (by show 1+(j:Int)<=8;omega) (by show 1<=1+(i:Int);omega) (by show 1+(i:Int)<=8;omega);rw[show mdL m (spOf (1+(j:Int)) (1+(i:Int))).Value (spOf (1+(j:Int)) (1+(i:Int))).Way=mdL m (1+(j:Int)) (1+(i:Int))from rfl]at V;generalize mdL m (1+(j:Int)) (1+(i:Int))=D at V Q N H;refine gq ?_;refine yQ [10,26,27,28,29,30] [0,0,0,6,15,31] mo ?_;(iterate 3 refine yb ?_);refine yI (zdg (1+(j:Int)) (1+(i:Int))) ?_;refine yI V ?_;refine yb ?_;refine yx ?_;apply yG;refine yi ?_;apply kA;have v5:=zxc (alO m t j++alI m t (1+(j:Int)) (1+i)) (spOf (1+(j:Int)) (1+(i:Int))) t D;have v4:=zin m t (1+(j:Int)) (1+i);refine ze (λq=>[(2,.ptr 2 0 0 0),(3,.ptr 3 0 0 0),(7,.own 7),(8,iv (1+(j:Int))),(9,iv (1+(i:Int))),(10,tmsA D),(11,iv (q:Int))]) (λq=>[(2,.box (mnE m) 23),(3,.box (tmE t) 83),(7,.row spE (zdf (alO m t j++alI m t (1+(j:Int)) (1+i)) (spOf (1+(j:Int)) (1+(i:Int))) t D q) 155 5)]) D.length (λq hk=>?_);refine gd ?_ ?_<;>intro v3
   ·obtain⟨u,E⟩:∃u,D[q]? =some u:=⟨_,lgg (by omega)⟩;have v1:D[(q:Int).toNat]? =some u:=by simpa using E
    have xT:=zrp (alO m t j++alI m t (1+(j:Int)) (1+i)) (spOf (1+(j:Int)) (1+(i:Int))) t D q;rw[jI]at xT;refine gq ?_;refine yQ [37,38,39,40,41,42] [0,0,3,7,0,31] mo ?_;(iterate 6 refine yb ?_);refine yx ?_;refine gd ?_ ?_<;>intro J
    ·have U:=zro (X:=alO m t j++alI m t (1+(j:Int)) (1+i)) (s:=(spOf (1+(j:Int)) (1+(i:Int)))) E J N;refine gq ?_;refine yM (zdg (1+(j:Int)) (1+(i:Int))) ?_;refine yz spE [spOf (1+(j:Int)) (1+(i:Int))] ?_;refine gq ?_;refine yo (q+1) (hI:=yg)
    ·have U:=ztw (X:=alO m t j++alI m t (1+(j:Int)) (1+i)) (s:=(spOf (1+(j:Int)) (1+(i:Int)))) E J;refine gq ?_;refine yo (q+1) (hI:=yg)
   ·have x4:q=D.length:=by omega
    subst x4;have U:=zrq (t:=t) Q (alO m t j);refine gq ?_;refine yo (i+1) (hI:=yg)
  ·have x3:i=8:=by omega
   subst x3;have U:alO m t j++alI m t (1+(j:Int)) (1+8)=alO m t (j+1):=by conv=>rhs;unfold alO
   refine gq ?_;refine yo (j+1) (hI:=yg)
 ·have x2:j=8:=by omega
  subst x2;have I:alO m t 8=allE m t:=by unfold allE;rw[j4 Z]
  apply kK;apply ye;refine yq ?_;refine kE ?_;refine k8 (k9 (k:=7) rfl) ?_;refine yh ?_ ?_;all_goals(first|exact j6 spsA I|rfl|exact j6 (AV.int .i64) Z.symm)
end
section
def zy5{m:Mn}{l:List Bt}{k:Nat}{b:Bt}(h0:ckM m=0)(Z:l[k]? =some b)(V:btF (l.take k)=0)(h:¬btC b=0):wcE m l=btC b:=by
 have e:=zjo Z V
 grind[wcE,zjp]
def zy6{l:List Bt}{k:Nat}{b:Bt}(Z:l[k]? =some b)(V:btF (l.take k)=0)(h:btC b=0):btF (l.take (k+1))=0:=by
 rw[zjo Z V,h]
def pvQ(b:Bt)(h:Hb)(v:Int)(c:Bool)(s:Sp):Bool:=decide (s.Value=v)&&decide (s.Color=c)&&urQ b h s
def smQ(b:Bt)(h:Hb)(v:Int)(c:Bool)(L:List Sp):Bool:=L.any (pvQ b h v c)
def plQ(b:Bt)(h:Hb)(v:Int)(c:Bool)(L:List Sp):Bool:=L.any λs=>pvQ b h v c s&&!s.Dot
def zy7{b:Bt}{h:Hb}{v:Int}{c:Bool}{L:List Sp}{k:Nat}{s:Sp}(hs:L[k]? =some s):smQ b h v c (L.take (k+1))=(smQ b h v c (L.take k)||pvQ b h v c s):=by
 unfold smQ;rw[jA,hs];simp
def zy8{b:Bt}{h:Hb}{v:Int}{c:Bool}{L:List Sp}{k:Nat}{s:Sp}(hs:L[k]? =some s):plQ b h v c (L.take (k+1))=(plQ b h v c (L.take k)||(pvQ b h v c s&&!s.Dot)):=by
 unfold plQ;rw[jA,hs];simp
def zwG{α:Type}{p q:α->Bool}:∀{L:List α},(∀x∈L,p x=q x)->L.any p=L.any q
 |[],_=>rfl
 |x::r,h=>by grind
theorem zqS{m:Mn}{b:Bt}{h:Hb}{v:Int}{c:Bool}:rkC b h (allE m b.Dur) v c=(if plQ b h v c (allE m b.Dur)then[⟨v,c,false⟩]else[])++(if smQ b h v c (allE m b.Dur)&&h.Dots then[⟨v,c,true⟩]else[]):=by
 unfold rkC plQ smQ
 have e1:((allE m b.Dur).any λs=>slQ b h s&&decide (s.Value=v)&&decide (s.Color=c)&&!s.Dot)=(allE m b.Dur).any λs=>pvQ b h v c s&&!s.Dot:=zwG λs hs=>by
  unfold pvQ;rw[zvp hs];cases slQ b h s<;>simp
 grind[pvQ,zvp]
def rkW(b:Bt)(h:Hb)(L:List Sp)(v:Int):Nat->List Fo
 |0=>[]
 |1=>rkC b h L v false
 |_=>rkV b h L v
def cI(n:Nat):Bool:=decide ((n:Int)=1)
theorem zu4{b:Bt}{h:Hb}{L:List Sp}{v:Int}{n:Nat}(Z:n<2):rkW b h L v n++rkC b h L v (cI n)=rkW b h L v (n+1):=by
 rcases n with _|_|n
 ·rfl
 ·rfl
 ·omega
def rjL(m:Mn)(b:Bt)(h:Hb)(j n:Nat):List (List Sg):=(rkL b h (allE m b.Dur) j++rkW b h (allE m b.Dur) (1+(j:Int)) n).map (foS b.Rest)
def zy9(m:Mn)(b:Bt)(h:Hb):[]=rjL m b h 0 0:=rfl
def zza(m:Mn)(b:Bt)(h:Hb)(j:Nat):rjL m b h j 2=rjL m b h (j+1) 0:=by
 unfold rjL
 grind[rkW,rkL]
def zzb(m:Mn)(b:Bt)(h:Hb):rjL m b h 8 0=frV m b h:=by
 simp[rjL,frV,frL,rkW]
def zs3(b:Bt)(h:Hb)(L:List Sp)(n:Nat):(rkL b h L n).length<=4*n:=by
 induction n with
 |zero=>simp[rkL]
 |succ n ih=>
  have Z:∀c,(rkC b h L (1+(n:Int)) c).length<=2:=λc=>by
   unfold rkC;rw[jI];split<;>split<;>simp
  grind[rkL,rkV]
theorem zoz(m:Mn)(b:Bt)(h:Hb)(j n:Nat)(V:j<=8):(rjL m b h j n).length<=100:=by
 unfold rjL;rw[jO,jI];have U:=zs3 b h (allE m b.Dur) j
 have Z:∀c,(rkC b h (allE m b.Dur) (1+(j:Int)) c).length<=2:=λc=>by
  grind[rkC]
 have T:=Z false;have Q:=Z true
 have N:(rkW b h (allE m b.Dur) (1+(j:Int)) n).length<=4:=by
  rcases n with _|_|n
  ·simp[rkW]
  ·grind[rkW]
  ·show(rkV b h (allE m b.Dur) (1+(j:Int))).length<=4
   grind[rkV]
 omega
def foB(r:Bool)(v:Int)(c:Bool):Sg:=if r then⟨2,v,0,0,false,0,false,false,⟨0,0,0,0⟩,false,0,0,0,0⟩else⟨1,v,4,0,c,0,false,false,⟨0,0,0,0⟩,false,0,0,0,0⟩
abbrev doS:Sg:=⟨3,0,0,0,false,0,false,false,⟨0,0,0,0⟩,false,0,0,0,0⟩
theorem zu5(r:Bool)(v:Int)(c:Bool):foS r ⟨v,c,false⟩=[foB r v c]:=by rfl
theorem zzc(r:Bool)(v:Int)(c:Bool):foS r ⟨v,c,true⟩=[foB r v c,doS]:=by rfl
def rjP(m:Mn)(b:Bt)(h:Hb)(j n:Nat):List (List Sg):=rjL m b h j n++(if plQ b h (1+(j:Int)) (cI n) (allE m b.Dur)then[[foB b.Rest (1+(j:Int)) (cI n)]]else[])
def zs4(m:Mn)(b:Bt)(h:Hb)(j n:Nat)(Z:j<=8):(rjP m b h j n).length<=101:=by
 grind[zoz,rjP]
def zzd{m:Mn}{b:Bt}{h:Hb}{j n:Nat}(Z:plQ b h (1+(j:Int)) (cI n) (allE m b.Dur)=true):rjL m b h j n++[[foB b.Rest (1+(j:Int)) (cI n)]]=rjP m b h j n:=by grind[rjP]
def zze{m:Mn}{b:Bt}{h:Hb}{j n:Nat}(Z:plQ b h (1+(j:Int)) (cI n) (allE m b.Dur)=false):rjL m b h j n=rjP m b h j n:=by unfold rjP;rw[Z];simp
def zzf{m:Mn}{b:Bt}{h:Hb}{j n:Nat}(Z:n<2)(V:smQ b h (1+(j:Int)) (cI n) (allE m b.Dur)=true)(U:h.Dots=true):rjP m b h j n++[[foB b.Rest (1+(j:Int)) (cI n),doS]]=rjL m b h j (n+1):=by
 unfold rjP rjL
 grind[zu4,zqS,zu5,zzc]
def zzg{m:Mn}{b:Bt}{h:Hb}{j n:Nat}(T:n<2)(Z:¬(smQ b h (1+(j:Int)) (cI n) (allE m b.Dur)=true/\h.Dots=true)):rjP m b h j n=rjL m b h j (n+1):=by
 have hx:(smQ b h (1+(j:Int)) (cI n) (allE m b.Dur)&&h.Dots)=false:=by
  cases V:smQ b h (1+(j:Int)) (cI n) (allE m b.Dur)<;>cases U:h.Dots<;>simp[V,U]at Z⊢
 grind[rjP,rjL,zu4,zqS,zu5]
def zCF{m:Mn}{l:List Bt}{h:Hb}(c:wcE m l=0)(c2:¬12<l.length)(c3:cqO m h l=true):wcnE m l h=0/\wcnV m l h=0:=by
 simp_all[zn7,zoU]
def zCG{m:Mn}{l:List Bt}{h:Hb}(c:wcE m l=0)(c2:¬12<l.length)(c3:cqO m h l=false)(c4:4096<cqN m h l):wcnE m l h=15/\wcnV m l h=0:=by
 have q:=(zuS m h l 1 (jE _) c3).1;rw[Nat.one_mul]at q;exact zmH c c2 (q.1 c4)
def zCH{m:Mn}{l:List Bt}{h:Hb}(c:wcE m l=0)(c2:¬12<l.length)(c3:cqO m h l=false)(c4:¬4096<cqN m h l):wcnE m l h=0/\wcnV m l h=(cqN m h l:Int):=by
 simp_all[zuS,cqN,zoU]
def zzh{m:Mn}{h:Hb}{n:Nat}{b:Bt}(Z:0<(frV m b h).length)(V:n<=4096):(n:Int)*((frV m b h).length:Int)=((cqS m h n b:Nat):Int):=by
 simp_all[cqS]
def zzi{m:Mn}{h:Hb}{n:Nat}{b:Bt}(Z:¬(0<(frV m b h).length/\n<=4096)):n=cqS m h n b:=by
 grind[cqS]
attribute [local irreducible] Pur yA yC Ex X Fn Imp LeV LeB FnO It yH FnW FnOW FnP FnD
attribute [local irreducible] wcE btF btC ckT ckM allE bthE urQ pvQ smQ plQ rjL rjP frV cqO cqN cqS wcnE wcnV fmV
def zgf(b:Bt):Fn prog 126 [btA b] (iv (btC b)):=by
 refine kC func126 ntmps126 (λg w d=>?_);refine gc (zQ b.Dur) ?_;refine gd ?_ ?_<;>intro V
 ·have Z:btC b=ckT b.Dur:=by grind[btC]
  refine gq ?_;all_goals rw[Z]
 have h0:ckT b.Dur=0:=by omega
 refine gd ?_ ?_<;>intro U
 ·have Z:btC b=2:=by simp_all[btC]
  refine gq ?_;all_goals rw[Z]
 have Z:btC b=0:=by simp_all[btC]
 refine gq ?_;all_goals rw[Z]
def za8(m:Mn)(l:List Bt)(hl:l.length<=9223372036854775807):Fn prog 74 [mnA m,btsA l] (iv (wcE m l)):=by
 refine kC func74 ntmps74 (λg w d=>?_);refine gc (zk m) ?_;refine gd ?_ ?_<;>intro U
 ·have V:=ztp (l:=l) U;refine gq ?_;all_goals rw[V]
 have h0:ckM m=0:=by omega
 have N:iv (ckM m)=iv 0:=by rw[h0]
 refine gq ?_
 refine zcw (ι:=Nat) (λ(k:Nat)=>[(1,btsA l),(5,iv 0),(6,iv (k:Int))]) (λ(k:Nat)=>[]) (λ(k:Nat)=>k<=l.length/\btF (l.take k)=0) (λ(k:Nat)=>l.length-k) 0 (λk J=>?_) (hJ:=by
  simp[btF]) (h0:=by exact yg)
 obtain⟨I,Z⟩:=J;refine gd ?_ ?_<;>intro H
 ·obtain⟨b,T⟩:∃b,l[k]? =some b:=⟨_,lgg (by omega)⟩;have E:l[(k:Int).toNat]? =some b:=by simpa using T
  refine gc (zgf b) ?_;refine gd ?_ ?_<;>intro Q
  ·have V:=zy5 h0 T Z Q;refine gq ?_;all_goals rw[V]
  have h3:btC b=0:=by omega
  have xT:=zy6 T Z h3;refine gq ?_
  refine yo (k+1) (hJ:=by
   omega) (hI:=yg)
 ·obtain rfl:k=l.length:=by omega
  have V:=zzM h0 Z;refine gq ?_;all_goals rw[V]
def zgg(s:Sp)(b:Bt)(h:Hb):Fn prog 128 [spA s,btA b,hbA h] (.bool (urQ b h s)):=by
 refine kC func128 ntmps128 (λg w d=>?_);apply ye;iterate 3 refine zZ ?_
 refine ya ?_;apply yG;iterate 5 refine ya ?_
 refine kG 5 ?_;refine yn ?_;iterate 7 refine kF ?_
 iterate 2 refine yn ?_
 iterate 7 refine kF ?_
 iterate 2 refine yn ?_
 iterate 7 refine kF ?_
 refine zds ?_;refine yL ?_;refine kE ?_;refine zaA ?_
 grind[urQ]
set_option maxHeartbeats 4000000 in
theorem za9(m:Mn)(b:Bt)(h:Hb):Fn prog 75 [mnA m,btA b,hbA h] (.tup [zp (fmV m b h),iv (wcE m [b])]):=by
 have x1:=zoG m b.Dur;have x0:=zy9 m b h;have xT:=zzb m b h;refine kC func75 ntmps75 (λg w d=>?_);refine gq ?_;refine kS (yF (enc:=btE) (l:=[b]) sl24 zf5 zjZ (by decide) rfl rfl rfl rfl (by decide) (by decide) (λ_=>rfl) rfl) rfl rfl ?_;refine gc (za8 m [b] (by simp)) ?_;refine gd ?_ ?_<;>intro x4
 ·have hV:fmV m b h=[]:=by unfold fmV;rw[j3 x4]
  apply ye;refine yq ?_;refine kE ?_;refine k8 (yd (ts:=[(6,zp []),(7,iv (wcE m [b]))]) (hs:=[])) ?_;refine yh ?_ ?_;all_goals simp_all
 have h0:wcE m [b]=0:=by omega
 have hV:fmV m b h=frV m b h:=by grind[fmV]
 refine gq ?_;refine yM (zgR m b.Dur) ?_;iterate 5 refine ya ?_
 apply yG;refine yi ?_;iterate 2 apply yf
 refine kJ (yE sgsE 33 1 11 30 rfl rfl) ?_;apply yj;refine yi ?_;apply kA;refine ze (λj=>[(4,.ptr 4 0 0 0),(5,.ptr 5 0 0 0),(9,spsA (allE m b.Dur)),(11,.own 30),(12,iv (1+(j:Int)))]) (λj=>[(4,.box (btE b) 100),(5,.box (hbE h) 32),(30,.row sgsE (rjL m b h j 0) 33 1)]) 8 (λj hk=>?_);refine gd ?_ ?_<;>intro w2
 ·have x3:=zoz m b h j;apply yl;apply yf;apply kA;apply ye;refine yi ?_;apply kA;refine ze (λn=>[(4,.ptr 4 0 0 0),(5,.ptr 5 0 0 0),(9,spsA (allE m b.Dur)),(11,.own 30),(12,iv (1+(j:Int))),(13,iv (n:Int))]) (λn=>[(4,.box (btE b) 100),(5,.box (hbE h) 32),(30,.row sgsE (rjL m b h j n) 33 1)]) 2 (λn hk=>?_);refine gd ?_ ?_<;>intro v9
  ·have v8:false=smQ b h (1+(j:Int)) (cI n) ((allE m b.Dur).take 0):=by unfold smQ;rfl
   have v5:false=plQ b h (1+(j:Int)) (cI n) ((allE m b.Dur).take 0):=by unfold plQ;rfl
   apply yl;apply yf;apply kA;apply ye;refine yL ?_;apply yf;apply ye;refine yi ?_;apply kA;refine ze (λi=>[(4,.ptr 4 0 0 0),(5,.ptr 5 0 0 0),(9,spsA (allE m b.Dur)),(11,.own 30),(12,iv (1+(j:Int))),(13,iv (n:Int)),(14,.bool (smQ b h (1+(j:Int)) (cI n) ((allE m b.Dur).take i))),(15,.bool (plQ b h (1+(j:Int)) (cI n) ((allE m b.Dur).take i))),(16,iv (i:Int))]) (λi=>[(4,.box (btE b) 100),(5,.box (hbE h) 32),(30,.row sgsE (rjL m b h j n) 33 1)]) ((allE m b.Dur).length) (λi hk=>?_);refine gd ?_ ?_<;>intro v4
   ·obtain⟨s,hs⟩:∃s,(allE m b.Dur)[i]? =some s:=⟨_,lgg (by omega)⟩;have v3:(allE m b.Dur)[(i:Int).toNat]? =some s:=by simpa using hs
    have Z:=zy7 (b:=b) (h:=h) (v:=(1+(j:Int))) (c:=cI n) hs;have V:=zy8 (b:=b) (h:=h) (v:=(1+(j:Int))) (c:=cI n) hs;refine gq ?_;refine yQ [46,47,48,49,50,51,52,53,54,55,56,57,58,59,60,61,62,63,64,65,66,67,68,69,70,71] [0,0,3,7,15,0,63,127,255,255,1023,2047,4095,255,8447,32767,65535,131071,262143,262143,1048575,2097151,262143,262143,16777215,33554431] mo ?_;(iterate 8 refine yb ?_);(iterate 8 refine kM ?_);(iterate 2 refine yb ?_);(iterate 6 refine kM ?_);refine kX (zgg s b h) ?_;refine yb ?_;refine yx ?_;refine gd ?_ ?_<;>intro v1
    ·have hp:pvQ b h (1+(j:Int)) (cI n) s=true:=by
      simp_all[pvQ,cI]
     rw[hp]at Z V;simp only[Bool.or_true,wZ]at Z V;have Q:=Z.symm;have N:=V.symm;apply ye;refine yi ?_;apply yj;refine ya ?_;refine kG 1 ?_;refine yn ?_;(iterate 6 refine kF ?_);refine ge ?_;refine yo (i+1) (hI:=yg)
    ·have hp:pvQ b h (1+(j:Int)) (cI n) s=false:=by
      grind[pvQ,cI]
     rw[hp]at Z V;simp only[Bool.or_false,Bool.false_and]at Z V;have Q:=Z.symm;have N:=V.symm;refine gq ?_;refine yo (i+1) (hI:=yg)
   ·obtain rfl:i=(allE m b.Dur).length:=by omega
    have v0:smQ b h (1+(j:Int)) (cI n) ((allE m b.Dur).take (allE m b.Dur).length)=smQ b h (1+(j:Int)) (cI n) (allE m b.Dur):=by simp
    have u3:plQ b h (1+(j:Int)) (cI n) ((allE m b.Dur).take (allE m b.Dur).length)=plQ b h (1+(j:Int)) (cI n) (allE m b.Dur):=by simp
    apply kK;apply ye;(iterate 4 refine ya ?_);refine zb ?_;refine kI ?_;apply kL;refine zck ⟨[(4,.ptr 4 0 0 0),(5,.ptr 5 0 0 0),(9,spsA (allE m b.Dur)),(11,.own 30),(12,iv (1+(j:Int))),(13,iv (n:Int)),(14,.bool (smQ b h (1+(j:Int)) (cI n) (allE m b.Dur))),(15,.bool (plQ b h (1+(j:Int)) (cI n) (allE m b.Dur))),(17,.ptr 17 0 0 0)],[(4,.box (btE b) 100),(5,.box (hbE h) 32),(30,.row sgsE (rjL m b h j n) 33 1),(17,.box (sgE (foB b.Rest (1+(j:Int)) (cI n))) 90)]⟩ (λU=>?_) ?_
    ·refine gd ?_ ?_<;>intro u2
     ·have x2:sgE ⟨2,(1+(j:Int)),0,0,false,0,false,false,⟨0,0,0,0⟩,false,0,0,0,0⟩=sgE (foB b.Rest (1+(j:Int)) (cI n)):=by grind[foB]
      apply yj;(iterate 2 refine ya ?_);refine kI ?_;apply kL;exact kJ yg U
     ·have x2:sgE ⟨1,(1+(j:Int)),4,0,decide ((n:Int)=1),0,false,false,⟨0,0,0,0⟩,false,0,0,0,0⟩=sgE (foB b.Rest (1+(j:Int)) (cI n)):=by simp_all[foB,cI]
      apply yl;exact kJ yg U
    refine zck ⟨[(4,.ptr 4 0 0 0),(5,.ptr 5 0 0 0),(9,spsA (allE m b.Dur)),(11,.own 30),(12,iv (1+(j:Int))),(13,iv (n:Int)),(14,.bool (smQ b h (1+(j:Int)) (cI n) (allE m b.Dur))),(17,.ptr 17 0 0 0)],[(4,.box (btE b) 100),(5,.box (hbE h) 32),(30,.row sgsE (rjP m b h j n) 33 1),(17,.box (sgE (foB b.Rest (1+(j:Int)) (cI n))) 90)]⟩ (λT=>?_) ?_
    ·refine gd ?_ ?_<;>intro J
     ·have I:=zzd J;have u1:=x3 n (by omega);refine gq ?_;refine kS (yF (enc:=sgE) (l:=[foB b.Rest (1+(j:Int)) (cI n)]) sl33 ty90 ze90 (by decide) rfl rfl rfl rfl (by decide) (by decide) (λ_=>rfl) rfl) rfl rfl ?_;refine kS (yF (enc:=sgsE) (l:=[[foB b.Rest (1+(j:Int)) (cI n)]]) sl56 ty33 ze33 (by decide) rfl rfl rfl rfl (by decide) (by decide) (λ_=>rfl) rfl) rfl rfl ?_;refine kI ?_;refine yi ?_;exact kJ yg T
     ·have I:=zze (m:=m) (by simpa using J);apply yl;exact kJ yg T
    apply ye;refine ya ?_;refine kG 1 ?_;refine yn ?_;(iterate 2 refine kF ?_);refine gf ?_ ?_<;>intro H
    ·have k5:=zs4 m b h j n (by omega);have E:=zzf (by omega) H.1 H.2;refine gq ?_;refine kS (yF (enc:=sgE) (l:=[foB b.Rest (1+(j:Int)) (cI n),doS]) sl33 ty90 ze90 (by decide) rfl rfl rfl rfl (by decide) (by decide) (λ_=>rfl) rfl) rfl rfl ?_;refine kS (yF (enc:=sgsE) (l:=[[foB b.Rest (1+(j:Int)) (cI n),doS]]) sl56 ty33 ze33 (by decide) rfl rfl rfl rfl (by decide) (by decide) (λ_=>rfl) rfl) rfl rfl ?_;refine gq ?_;refine yo (n+1) (hI:=yg)
    ·have E:=zzg (m:=m) (b:=b) (h:=h) (j:=j) (n:=n) (by omega) (by all_goals grind);refine gq ?_;refine yo (n+1) (hI:=yg)
  ·obtain rfl:n=2:=by omega
   have k4:=zza m b h j;refine gq ?_;refine yo (j+1) (hI:=yg)
 ·obtain rfl:j=8:=by omega
  apply kK;apply ye;refine yq ?_;refine kE ?_;refine k8 (k9 (k:=30) rfl) ?_;refine yh ?_ ?_;all_goals(first|exact zE hV|rfl|exact zE h0|(rw[xT,hV];rfl))
end
section
def zwH{m:Mn}{l:List Bt}(h:wcE m l=0){b:Bt}(Z:b∈l):wcE m [b]=0:=by
 unfold wcE at*
 split at h
 ·rename_i h0;rw[j4 h0];have:=zlC.1 h b Z;show(if btC b=0 then 0 else btC b)=0;rw[j4 this]
 ·exact absurd h ‹_›
def zwI{m:Mn}{l:List Bt}(h:wcE m l=0){b:Bt}(Z:b∈l)(q:Hb):fmV m b q=frV m b q:=by
 unfold fmV;rw[j4 (zwH h Z)]
attribute [local irreducible] Pur yA yC Ex X Fn Imp LeV LeB FnO It yH FnW FnOW FnP FnD
attribute [local irreducible] wcE frV fmV cqO cqN cqS wcnE wcnV durB
set_option maxHeartbeats 1000000 in
def zO(m:Mn)(l:List Bt)(h:Hb)(hl:l.length<=9223372036854775807):Fn prog 19 [mnA m,btsA l,hbA h] (.tup [iv (wcnV m l h),iv (wcnE m l h)]):=by
 have x1:(1:Int)=((cqN m h (l.take 0):Nat):Int):=by unfold cqN;rfl
 have x0:false=cqO m h (l.take 0):=by unfold cqO;rfl
 refine kC func19 ntmps19 (λg w d=>?_);refine gc (za8 m l (by omega)) ?_;refine gd ?_ ?_<;>intro H
 ·have E:=zjs (h:=h) H;obtain⟨hE,V⟩:=E;refine gq ?_;refine yh ?_ ?_;all_goals(first|exact zE V|exact zE hE|(rw[V,Z];done))
 have h0:wcE m l=0:=by omega
 refine gd ?_ ?_<;>intro w2
 ·have xT:=zoT (h:=h) h0 (by omega);obtain⟨hE,V⟩:=xT;refine gq ?_;refine yh ?_ ?_;all_goals(first|exact zE V|exact zE hE|(rw[V,Z];done))
 have U:¬12<l.length:=by omega
 apply yl;apply ye;refine ya ?_;apply yG;refine yi ?_;apply yf;apply ye;refine yi ?_;apply kA;refine ze (λk=>[(1,btsA l),(3,.ptr 3 0 0 0),(5,.ptr 5 0 0 0),(9,iv ((cqN m h (l.take k):Nat):Int)),(10,.bool (cqO m h (l.take k))),(11,iv (k:Int))]) (λk=>[(3,.box (mnE m) 23),(5,.box (hbE h) 32)]) l.length (λk hk=>?_);refine gd ?_ ?_<;>intro v9
 ·obtain⟨b,I⟩:∃b,l[k]? =some b:=⟨_,lgg (by omega)⟩;have v8:l[(k:Int).toNat]? =some b:=by simpa using I
  have T:=za9 m b h;rw[zwI h0 (j5 I)]at T;have hf:=zfs m b h
  have hO:(cqO m h (l.take k)||decide (((frV m b h).length:Int)=0))=cqO m h (l.take (k+1)):=by
   rw[zye I];exact j6 _ (decide_eq_decide.2 (by omega))
  have hq:cqN m h (l.take (k+1))<=131072:=by unfold cqN;exact zvZ m h _ 1 (by decide)
  have hs:=zyf (m:=m) (h:=h) I;refine gq ?_;refine yQ [12,13,29,30,31,32,33,34,35,36,37,38] [0,0,0,6,14,0,63,127,255,255,511,2047] mo ?_;iterate 6 refine yb ?_
  refine yI T ?_;iterate 5 refine yb ?_
  refine yx ?_;apply yG;refine ya ?_;refine kG 1 ?_;refine yn ?_;iterate 3 refine kF ?_
  refine zds ?_;iterate 2 refine ya ?_
  apply yG;iterate 3 refine ya ?_
  refine kG 3 ?_;refine yn ?_;iterate 2 refine kF ?_
  refine gf ?_ ?_<;>intro v5
  ·have hN:((cqN m h (l.take k):Nat):Int)*((frV m b h).length:Int)=((cqN m h (l.take (k+1)):Nat):Int):=by rw[hs];exact zzh (by omega) (by omega)
   refine gq ?_;refine yo (k+1) (hI:=yg)
  ·have hN:((cqN m h (l.take k):Nat):Int)=((cqN m h (l.take (k+1)):Nat):Int):=by rw[hs,←zzi (by omega)]
   refine gq ?_;refine yo (k+1) (hI:=yg)
 ·obtain rfl:k=l.length:=by omega
  have Q:cqO m h (l.take l.length)=cqO m h l:=by rw[j9]
  have Z:cqN m h (l.take l.length)=cqN m h l:=by rw[j9]
  refine gd ?_ ?_<;>intro N
  ·have x4:=zCF h0 U (by rw[←Q];exact N);obtain⟨hE,V⟩:=x4;refine gq ?_;refine yh ?_ ?_;all_goals(first|exact zE V|exact zE hE|(rw[V,Z];done))
  have J:cqO m h l=false:=by rw[←Q];simpa using N
  refine gd ?_ ?_<;>intro v4
  ·have x3:=zCG h0 U J (by rw[←Z];omega);obtain⟨hE,V⟩:=x3;refine gq ?_;refine yh ?_ ?_;all_goals(first|exact zE V|exact zE hE|(rw[V,Z];done))
  have x2:=zCH h0 U J (by rw[←Z];omega);obtain⟨hE,V⟩:=x2;refine gq ?_;refine yh ?_ ?_;all_goals(first|exact zE V|exact zE hE|(rw[V,Z];done))
def zbw(l:List Bt)(hl:l.length<=4000000000):Fn prog 83 [btsA l] (tmsA (durB l)):=by
 have V:[]=durB (l.take 0):=by unfold durB;rfl
 refine kC func83 ntmps83 (λg w d=>?_);apply ye;refine ya ?_;apply yG;refine yi ?_;iterate 2 apply yf
 refine kJ (yE tmE 83 2 3 30 rfl rfl) ?_;apply yj;refine yi ?_;apply kA;refine ze (λk=>[(0,btsA l),(3,.own 30),(4,iv (k:Int))]) (λk=>[(30,.row tmE (durB (l.take k)) 83 2)]) l.length (λk I=>?_);refine gd ?_ ?_<;>intro U
 ·obtain⟨b,Z⟩:∃b,l[k]? =some b:=⟨_,lgg (by omega)⟩;have T:l[(k:Int).toNat]? =some b:=by simpa using Z
  have Q:=znE Z;have N:(durB (l.take k)).length<=l.length:=by rw[zjq,jL];omega
  refine gq ?_;refine yz tmE [b.Dur] ?_;refine gq ?_;refine yo (k+1) (hI:=yg)
 ·obtain rfl:k=l.length:=by omega
  have J:durB (l.take l.length)=durB l:=by rw[j9]
  apply kK;apply ye;refine yL ?_;refine kE ?_;refine k8 (k9 (k:=30) rfl) ?_;refine gq ?_;all_goals(exact j6 (λz=>tmsA z) J)
end
end Go.Rse
