/-
  Walks.
-/
import Derived.Test.YtbopkhoalndflaaGreatDoorYJSpR
import Derived.Test.YtbopkhoalndflaaGreatDoorYJWri7
set_option linter.all false
namespace Go.Rse
open Go Go.Proofs Go.Proofs.Tryz
section
attribute [local irreducible] Pur yA yC Ex X Fn Imp LeV LeB FnO It yH
def mdB(m:Mn)(v:Int):Bool:=(List.range 8).all λi=>zuT (wdL m v (1+i)) (mdL m v (1+(i:Int)))&&decide ((mdL m v (1+(i:Int))).length<=81)
def zsr:zer mdB=true:=by kernel_rfl
def zv1{m:Mn}{v:Int}(hm:ckM m=0)(V:1<=v)(U:v<=8){i:Nat}(hi:i<8):(∀x,x∈mdL m v (1+(i:Int))↔x∈wdL m v (1+(i:Int)).toNat)/\(mdL m v (1+(i:Int))).Pairwise ltT/\(mdL m v (1+(i:Int))).length<=81:=by
 have h:=jB.1 (show(List.range 8).all _=true from zaS zsr hm V U) i (uW.2 hi);rw[j7]at h;have Z:=h.1;unfold zuT at Z;simp only[j7,jB,w5]at Z;rw[show(1+(i:Int)).toNat=1+i by omega];exact⟨λx=>⟨Z.1.2 x,λhx=>(Z.1.1 x hx).2⟩,Z.2,of_decide_eq_true h.2⟩
attribute [local irreducible] cmpV subV yx insT rlN rlL tmkT durT mdL wdL alO alI allE bthE zcO
set_option maxHeartbeats 4000000 in
def zgu(m:Mn)(t:Tm):Fn prog 127 [mnA m,tmA t] (.tup [spsA (allE m t),iv (bthE m t)]):=by
 refine kF func127 ntmps127 (λg w d=>?_);refine gc (zf1 m t) ?_;refine gd ?_ ?_<;>intro Z
 ·have I:[]=allE m t:=by unfold allE;rw[j4 Z]
  apply ye;refine yE ?_;refine kE ?_;refine kA (yd (ts:=[(4,spsA []),(5,iv (bthE m t))]) (hs:=[])) ?_;refine ym ?_ ?_;all_goals(first|exact j5 spsA I|rfl|exact j5 (AV.int .i64) Z.symm)
 apply yk;apply ye;refine yh ?_;iterate 2 apply yf
 refine kJ (yI spE 155 5 7 7 rfl rfl) ?_;apply yj;refine yh ?_;apply kB;have x2:[]=alO m t 0:=by unfold alO;rfl
 have T:=(zqM Z).1;refine zu (λj=>[(2,.ptr 2 0 0 0),(3,.ptr 3 0 0 0),(7,.own 7),(8,iv (1+(j:Int)))]) (λj=>[(2,.box (mnE m) 23),(3,.box (tmE t) 83),(7,.row spE (alO m t j) 155 5)]) 8 (λj hk=>?_);refine gd ?_ ?_<;>intro x1
 ·apply yk;apply yf;apply kB;apply ye;refine yh ?_;apply kB;have x0:alO m t j=alO m t j++alI m t (1+(j:Int)) (1+0):=by unfold alI;simp[alI]
  have w2:=zhT m t j;refine zu (λi=>[(2,.ptr 2 0 0 0),(3,.ptr 3 0 0 0),(7,.own 7),(8,iv (1+(j:Int))),(9,iv (1+(i:Int)))]) (λi=>[(2,.box (mnE m) 23),(3,.box (tmE t) 83),(7,.row spE (alO m t j++alI m t (1+(j:Int)) (1+i)) 155 5)]) 8 (λi hk=>?_);refine gd ?_ ?_<;>intro v9
  ·obtain⟨Q,N,H⟩:=zv1 T (v:=1+(j:Int)) (by omega) (by omega) (i:=i) (by omega);have V:=zf3 m T (spOf (1+(j:Int)) (1+(i:Int))) (by show 1<=1+(j:Int);omega) (by show 1+(j:Int)<=8;omega) (by show 1<=1+(i:Int);omega) (by show 1+(i:Int)<=8;omega);rw[show mdL m (spOf (1+(j:Int)) (1+(i:Int))).Value (spOf (1+(j:Int)) (1+(i:Int))).Way=mdL m (1+(j:Int)) (1+(i:Int))from rfl]at V;generalize mdL m (1+(j:Int)) (1+(i:Int))=D at V Q N H;refine gq ?_;refine yW [10,26,27,28,29,30] [0,0,0,6,15,31] mo ?_;(iterate 3 refine yb ?_);refine yL (zcP (1+(j:Int)) (1+(i:Int))) ?_;refine yL V ?_;refine yb ?_;refine yF ?_;apply yG;refine yh ?_;apply kB;have v8:=zwq (alO m t j++alI m t (1+(j:Int)) (1+i)) (spOf (1+(j:Int)) (1+(i:Int))) t D;have v5:=zhS m t (1+(j:Int)) (1+i);refine zu (λq=>[(2,.ptr 2 0 0 0),(3,.ptr 3 0 0 0),(7,.own 7),(8,iv (1+(j:Int))),(9,iv (1+(i:Int))),(10,tmsA D),(11,iv (q:Int))]) (λq=>[(2,.box (mnE m) 23),(3,.box (tmE t) 83),(7,.row spE (zcO (alO m t j++alI m t (1+(j:Int)) (1+i)) (spOf (1+(j:Int)) (1+(i:Int))) t D q) 155 5)]) D.length (λq hk=>?_);refine gd ?_ ?_<;>intro v4
   ·obtain⟨u,G⟩:∃u,D[q]? =some u:=⟨_,lgg (by omega)⟩;have v3:D[(q:Int).toNat]? =some u:=by simpa using G
    have E:=zqF (alO m t j++alI m t (1+(j:Int)) (1+i)) (spOf (1+(j:Int)) (1+(i:Int))) t D q;rw[jE]at E;refine gq ?_;refine yW [37,38,39,40,41,42] [0,0,3,7,0,31] mo ?_;(iterate 6 refine yb ?_);refine yF ?_;refine gd ?_ ?_<;>intro J
    ·have U:=zqE (X:=alO m t j++alI m t (1+(j:Int)) (1+i)) (s:=(spOf (1+(j:Int)) (1+(i:Int)))) G J N;refine gq ?_;refine yP (zcP (1+(j:Int)) (1+(i:Int))) ?_;refine yD spE [spOf (1+(j:Int)) (1+(i:Int))] ?_;refine gq ?_;refine yz (q+1) (hI:=yi)
    ·have U:=zsU (X:=alO m t j++alI m t (1+(j:Int)) (1+i)) (s:=(spOf (1+(j:Int)) (1+(i:Int)))) G J;refine gq ?_;refine yz (q+1) (hI:=yi)
   ·have xT:q=D.length:=by omega
    subst xT;have U:=zqG (t:=t) Q (alO m t j);refine gq ?_;refine yz (i+1) (hI:=yi)
  ·have x4:i=8:=by omega
   subst x4;have U:alO m t j++alI m t (1+(j:Int)) (1+8)=alO m t (j+1):=by conv=>rhs;unfold alO
   refine gq ?_;refine yz (j+1) (hI:=yi)
 ·have x3:j=8:=by omega
  subst x3;have I:alO m t 8=allE m t:=by unfold allE;rw[j3 Z]
  apply kO;apply ye;refine yE ?_;refine kE ?_;refine kA (k9 (k:=7) rfl) ?_;refine ym ?_ ?_;all_goals(first|exact j5 spsA I|rfl|exact j5 (AV.int .i64) Z.symm)
end
section
def zyb{m:Mn}{l:List Bt}{k:Nat}{b:Bt}(h0:ckM m=0)(Z:l[k]? =some b)(V:btF (l.take k)=0)(h:¬btC b=0):wcE m l=btC b:=by
 have e:=ziQ Z V
 grind[wcE,ziR]
def zyc{l:List Bt}{k:Nat}{b:Bt}(Z:l[k]? =some b)(V:btF (l.take k)=0)(h:btC b=0):btF (l.take (k+1))=0:=by
 rw[ziQ Z V,h]
def pvQ(b:Bt)(h:Hb)(v:Int)(c:Bool)(s:Sp):Bool:=decide (s.Value=v)&&decide (s.Color=c)&&urQ b h s
def smQ(b:Bt)(h:Hb)(v:Int)(c:Bool)(L:List Sp):Bool:=L.any (pvQ b h v c)
def plQ(b:Bt)(h:Hb)(v:Int)(c:Bool)(L:List Sp):Bool:=L.any λs=>pvQ b h v c s&&!s.Dot
def zyd{b:Bt}{h:Hb}{v:Int}{c:Bool}{L:List Sp}{k:Nat}{s:Sp}(hs:L[k]? =some s):smQ b h v c (L.take (k+1))=(smQ b h v c (L.take k)||pvQ b h v c s):=by
 unfold smQ;rw[jF,hs];simp
def zye{b:Bt}{h:Hb}{v:Int}{c:Bool}{L:List Sp}{k:Nat}{s:Sp}(hs:L[k]? =some s):plQ b h v c (L.take (k+1))=(plQ b h v c (L.take k)||(pvQ b h v c s&&!s.Dot)):=by
 unfold plQ;rw[jF,hs];simp
def zv2{α:Type}{p q:α->Bool}:∀{L:List α},(∀x∈L,p x=q x)->L.any p=L.any q
 |[],_=>rfl
 |x::r,h=>by grind
theorem zqe{m:Mn}{b:Bt}{h:Hb}{v:Int}{c:Bool}:rkC b h (allE m b.Dur) v c=(if plQ b h v c (allE m b.Dur)then[⟨v,c,false⟩]else[])++(if smQ b h v c (allE m b.Dur)&&h.Dots then[⟨v,c,true⟩]else[]):=by
 unfold rkC plQ smQ
 have e1:((allE m b.Dur).any λs=>slQ b h s&&decide (s.Value=v)&&decide (s.Color=c)&&!s.Dot)=(allE m b.Dur).any λs=>pvQ b h v c s&&!s.Dot:=zv2 λs hs=>by
  unfold pvQ;rw[zu0 hs];cases slQ b h s<;>simp
 grind[pvQ,zu0]
def rkW(b:Bt)(h:Hb)(L:List Sp)(v:Int):Nat->List Fo
 |0=>[]
 |1=>rkC b h L v false
 |_=>rkV b h L v
def cI(n:Nat):Bool:=decide ((n:Int)=1)
theorem zuE{b:Bt}{h:Hb}{L:List Sp}{v:Int}{n:Nat}(Z:n<2):rkW b h L v n++rkC b h L v (cI n)=rkW b h L v (n+1):=by
 rcases n with _|_|n
 ·rfl
 ·rfl
 ·omega
def rjL(m:Mn)(b:Bt)(h:Hb)(j n:Nat):List (List Sg):=(rkL b h (allE m b.Dur) j++rkW b h (allE m b.Dur) (1+(j:Int)) n).map (foS b.Rest)
def zyf(m:Mn)(b:Bt)(h:Hb):[]=rjL m b h 0 0:=rfl
def zyg(m:Mn)(b:Bt)(h:Hb)(j:Nat):rjL m b h j 2=rjL m b h (j+1) 0:=by
 unfold rjL
 grind[rkW,rkL]
def zyh(m:Mn)(b:Bt)(h:Hb):rjL m b h 8 0=frV m b h:=by
 simp[rjL,frV,frL,rkW]
def zss(b:Bt)(h:Hb)(L:List Sp)(n:Nat):(rkL b h L n).length<=4*n:=by
 induction n with
 |zero=>simp[rkL]
 |succ n ih=>
  have Z:∀c,(rkC b h L (1+(n:Int)) c).length<=2:=λc=>by
   unfold rkC;rw[jE];split<;>split<;>simp
  grind[rkL,rkV]
theorem znT(m:Mn)(b:Bt)(h:Hb)(j n:Nat)(V:j<=8):(rjL m b h j n).length<=100:=by
 unfold rjL;rw[jX,jE];have U:=zss b h (allE m b.Dur) j
 have Z:∀c,(rkC b h (allE m b.Dur) (1+(j:Int)) c).length<=2:=λc=>by
  grind[rkC]
 have T:=Z false;have Q:=Z true
 have N:(rkW b h (allE m b.Dur) (1+(j:Int)) n).length<=4:=by
  rcases n with _|_|n
  ·simp[rkW]
  ·grind[rkW]
  ·show(rkV b h (allE m b.Dur) (1+(j:Int))).length<=4
   grind[rkV]
 omega
def foB(r:Bool)(v:Int)(c:Bool):Sg:=if r then⟨2,v,0,0,false,0,false,false,⟨0,0,0,0⟩,false,0,0,0,0⟩else⟨1,v,4,0,c,0,false,false,⟨0,0,0,0⟩,false,0,0,0,0⟩
abbrev doS:Sg:=⟨3,0,0,0,false,0,false,false,⟨0,0,0,0⟩,false,0,0,0,0⟩
theorem zuF(r:Bool)(v:Int)(c:Bool):foS r ⟨v,c,false⟩=[foB r v c]:=by rfl
theorem zyi(r:Bool)(v:Int)(c:Bool):foS r ⟨v,c,true⟩=[foB r v c,doS]:=by rfl
def rjP(m:Mn)(b:Bt)(h:Hb)(j n:Nat):List (List Sg):=rjL m b h j n++(if plQ b h (1+(j:Int)) (cI n) (allE m b.Dur)then[[foB b.Rest (1+(j:Int)) (cI n)]]else[])
def zst(m:Mn)(b:Bt)(h:Hb)(j n:Nat)(Z:j<=8):(rjP m b h j n).length<=101:=by
 grind[znT,rjP]
def zyj{m:Mn}{b:Bt}{h:Hb}{j n:Nat}(Z:plQ b h (1+(j:Int)) (cI n) (allE m b.Dur)=true):rjL m b h j n++[[foB b.Rest (1+(j:Int)) (cI n)]]=rjP m b h j n:=by grind[rjP]
def zyk{m:Mn}{b:Bt}{h:Hb}{j n:Nat}(Z:plQ b h (1+(j:Int)) (cI n) (allE m b.Dur)=false):rjL m b h j n=rjP m b h j n:=by unfold rjP;rw[Z];simp
def zyl{m:Mn}{b:Bt}{h:Hb}{j n:Nat}(Z:n<2)(V:smQ b h (1+(j:Int)) (cI n) (allE m b.Dur)=true)(U:h.Dots=true):rjP m b h j n++[[foB b.Rest (1+(j:Int)) (cI n),doS]]=rjL m b h j (n+1):=by
 unfold rjP rjL
 grind[zuE,zqe,zuF,zyi]
def zym{m:Mn}{b:Bt}{h:Hb}{j n:Nat}(T:n<2)(Z:¬(smQ b h (1+(j:Int)) (cI n) (allE m b.Dur)=true/\h.Dots=true)):rjP m b h j n=rjL m b h j (n+1):=by
 have hx:(smQ b h (1+(j:Int)) (cI n) (allE m b.Dur)&&h.Dots)=false:=by
  cases V:smQ b h (1+(j:Int)) (cI n) (allE m b.Dur)<;>cases U:h.Dots<;>simp[V,U]at Z⊢
 grind[rjP,rjL,zuE,zqe,zuF]
def zBp{m:Mn}{l:List Bt}{h:Hb}(c:wcE m l=0)(c2:¬12<l.length)(c3:cqO m h l=true):wcnE m l h=0/\wcnV m l h=0:=by
 simp_all[zoj,zol]
def zBq{m:Mn}{l:List Bt}{h:Hb}(c:wcE m l=0)(c2:¬12<l.length)(c3:cqO m h l=false)(c4:4096<cqN m h l):wcnE m l h=15/\wcnV m l h=0:=by
 have q:=(zu1 m h l 1 (jD _) c3).1;rw[Nat.one_mul]at q;exact zqW c c2 (q.1 c4)
def zBr{m:Mn}{l:List Bt}{h:Hb}(c:wcE m l=0)(c2:¬12<l.length)(c3:cqO m h l=false)(c4:¬4096<cqN m h l):wcnE m l h=0/\wcnV m l h=(cqN m h l:Int):=by
 simp_all[zu1,cqN,zol]
def zyn{m:Mn}{h:Hb}{n:Nat}{b:Bt}(Z:0<(frV m b h).length)(V:n<=4096):(n:Int)*((frV m b h).length:Int)=((cqS m h n b:Nat):Int):=by
 simp_all[cqS]
def zyo{m:Mn}{h:Hb}{n:Nat}{b:Bt}(Z:¬(0<(frV m b h).length/\n<=4096)):n=cqS m h n b:=by
 grind[cqS]
attribute [local irreducible] Pur yA yC Ex X Fn Imp LeV LeB FnO It yH FnW FnOW FnP FnD
attribute [local irreducible] wcE btF btC ckT ckM allE bthE urQ pvQ smQ plQ rjL rjP frV cqO cqN cqS wcnE wcnV fmV
def zfT(b:Bt):Fn prog 126 [btA b] (iv (btC b)):=by
 refine kF func126 ntmps126 (λg w d=>?_);refine gc (zO b.Dur) ?_;refine gd ?_ ?_<;>intro V
 ·have Z:btC b=ckT b.Dur:=by grind[btC]
  refine gq ?_;all_goals rw[Z]
 have h0:ckT b.Dur=0:=by omega
 refine gd ?_ ?_<;>intro U
 ·have Z:btC b=2:=by simp_all[btC]
  refine gq ?_;all_goals rw[Z]
 have Z:btC b=0:=by simp_all[btC]
 refine gq ?_;all_goals rw[Z]
def za1(m:Mn)(l:List Bt)(hl:l.length<=9223372036854775807):Fn prog 74 [mnA m,btsA l] (iv (wcE m l)):=by
 refine kF func74 ntmps74 (λg w d=>?_);refine gc (zn m) ?_;refine gd ?_ ?_<;>intro U
 ·have V:=zs4 (l:=l) U;refine gq ?_;all_goals rw[V]
 have h0:ckM m=0:=by omega
 have N:iv (ckM m)=iv 0:=by rw[h0]
 refine gq ?_
 refine zd3 (ι:=Nat) (λ(k:Nat)=>[(1,btsA l),(5,iv 0),(6,iv (k:Int))]) (λ(k:Nat)=>[]) (λ(k:Nat)=>k<=l.length/\btF (l.take k)=0) (λ(k:Nat)=>l.length-k) 0 (λk J=>?_) (hJ:=by
  simp[btF]) (h0:=by exact yi)
 obtain⟨I,Z⟩:=J;refine gd ?_ ?_<;>intro H
 ·obtain⟨b,T⟩:∃b,l[k]? =some b:=⟨_,lgg (by omega)⟩;have G:l[(k:Int).toNat]? =some b:=by simpa using T
  refine gc (zfT b) ?_;refine gd ?_ ?_<;>intro Q
  ·have V:=zyb h0 T Z Q;refine gq ?_;all_goals rw[V]
  have E:btC b=0:=by omega
  have xT:=zyc T Z E;refine gq ?_
  refine yz (k+1) (hJ:=by
   omega) (hI:=yi)
 ·obtain rfl:k=l.length:=by omega
  have V:=zyZ h0 Z;refine gq ?_;all_goals rw[V]
def zfU(s:Sp)(b:Bt)(h:Hb):Fn prog 128 [spA s,btA b,hbA h] (.bool (urQ b h s)):=by
 refine kF func128 ntmps128 (λg w d=>?_);apply ye;iterate 3 refine zH ?_
 refine ya ?_;apply yG;iterate 5 refine ya ?_
 refine kI 5 ?_;refine yp ?_;iterate 7 refine kG ?_
 iterate 2 refine yp ?_
 iterate 7 refine kG ?_
 iterate 2 refine yp ?_
 iterate 7 refine kG ?_
 refine zdK ?_;refine yO ?_;refine kE ?_;refine zav ?_
 grind[urQ]
set_option maxHeartbeats 4000000 in
theorem zck(m:Mn)(b:Bt)(h:Hb):Fn prog 75 [mnA m,btA b,hbA h] (.tup [zca (fmV m b h),iv (wcE m [b])]):=by
 have x2:=zn6 m b.Dur;have x1:=zyf m b h;have E:=zyh m b h;refine kF func75 ntmps75 (λg w d=>?_);refine gq ?_;refine kT (yu (enc:=btE) (l:=[b]) sl24 zfK zjn (by decide) rfl rfl rfl rfl (by decide) (by decide) (λ_=>rfl) rfl) rfl rfl ?_;refine gc (za1 m [b] (by simp)) ?_;refine gd ?_ ?_<;>intro xT
 ·have hV:fmV m b h=[]:=by unfold fmV;rw[j4 xT]
  apply ye;refine yE ?_;refine kE ?_;refine kA (yd (ts:=[(6,zca []),(7,iv (wcE m [b]))]) (hs:=[])) ?_;refine ym ?_ ?_;all_goals simp_all
 have h0:wcE m [b]=0:=by omega
 have hV:fmV m b h=frV m b h:=by grind[fmV]
 refine gq ?_;refine yP (zgu m b.Dur) ?_;iterate 5 refine ya ?_
 apply yG;refine yh ?_;iterate 2 apply yf
 refine kJ (yI sgsE 33 1 11 30 rfl rfl) ?_;apply yj;refine yh ?_;apply kB;refine zu (λj=>[(4,.ptr 4 0 0 0),(5,.ptr 5 0 0 0),(9,spsA (allE m b.Dur)),(11,.own 30),(12,iv (1+(j:Int)))]) (λj=>[(4,.box (btE b) 100),(5,.box (hbE h) 32),(30,.row sgsE (rjL m b h j 0) 33 1)]) 8 (λj hk=>?_);refine gd ?_ ?_<;>intro x0
 ·have x4:=znT m b h j;apply yk;apply yf;apply kB;apply ye;refine yh ?_;apply kB;refine zu (λn=>[(4,.ptr 4 0 0 0),(5,.ptr 5 0 0 0),(9,spsA (allE m b.Dur)),(11,.own 30),(12,iv (1+(j:Int))),(13,iv (n:Int))]) (λn=>[(4,.box (btE b) 100),(5,.box (hbE h) 32),(30,.row sgsE (rjL m b h j n) 33 1)]) 2 (λn hk=>?_);refine gd ?_ ?_<;>intro w2
  ·have v9:false=smQ b h (1+(j:Int)) (cI n) ((allE m b.Dur).take 0):=by unfold smQ;rfl
   have v8:false=plQ b h (1+(j:Int)) (cI n) ((allE m b.Dur).take 0):=by unfold plQ;rfl
   apply yk;apply yf;apply kB;apply ye;refine yO ?_;apply yf;apply ye;refine yh ?_;apply kB;refine zu (λi=>[(4,.ptr 4 0 0 0),(5,.ptr 5 0 0 0),(9,spsA (allE m b.Dur)),(11,.own 30),(12,iv (1+(j:Int))),(13,iv (n:Int)),(14,.bool (smQ b h (1+(j:Int)) (cI n) ((allE m b.Dur).take i))),(15,.bool (plQ b h (1+(j:Int)) (cI n) ((allE m b.Dur).take i))),(16,iv (i:Int))]) (λi=>[(4,.box (btE b) 100),(5,.box (hbE h) 32),(30,.row sgsE (rjL m b h j n) 33 1)]) ((allE m b.Dur).length) (λi hk=>?_);refine gd ?_ ?_<;>intro v5
   ·obtain⟨s,hs⟩:∃s,(allE m b.Dur)[i]? =some s:=⟨_,lgg (by omega)⟩;have v4:(allE m b.Dur)[(i:Int).toNat]? =some s:=by simpa using hs
    have Z:=zyd (b:=b) (h:=h) (v:=(1+(j:Int))) (c:=cI n) hs;have V:=zye (b:=b) (h:=h) (v:=(1+(j:Int))) (c:=cI n) hs;refine gq ?_;refine yW [46,47,48,49,50,51,52,53,54,55,56,57,58,59,60,61,62,63,64,65,66,67,68,69,70,71] [0,0,3,7,15,0,63,127,255,255,1023,2047,4095,255,8447,32767,65535,131071,262143,262143,1048575,2097151,262143,262143,16777215,33554431] mo ?_;(iterate 8 refine yb ?_);(iterate 8 refine kM ?_);(iterate 2 refine yb ?_);(iterate 6 refine kM ?_);refine kZ (zfU s b h) ?_;refine yb ?_;refine yF ?_;refine gd ?_ ?_<;>intro v3
    ·have hp:pvQ b h (1+(j:Int)) (cI n) s=true:=by
      simp_all[pvQ,cI]
     rw[hp]at Z V;simp only[Bool.or_true,k6]at Z V;have Q:=Z.symm;have N:=V.symm;apply ye;refine yh ?_;apply yj;refine ya ?_;refine kI 1 ?_;refine yp ?_;(iterate 6 refine kG ?_);refine ge ?_;refine yz (i+1) (hI:=yi)
    ·have hp:pvQ b h (1+(j:Int)) (cI n) s=false:=by
      grind[pvQ,cI]
     rw[hp]at Z V;simp only[Bool.or_false,Bool.false_and]at Z V;have Q:=Z.symm;have N:=V.symm;refine gq ?_;refine yz (i+1) (hI:=yi)
   ·obtain rfl:i=(allE m b.Dur).length:=by omega
    have v1:smQ b h (1+(j:Int)) (cI n) ((allE m b.Dur).take (allE m b.Dur).length)=smQ b h (1+(j:Int)) (cI n) (allE m b.Dur):=by simp
    have v0:plQ b h (1+(j:Int)) (cI n) ((allE m b.Dur).take (allE m b.Dur).length)=plQ b h (1+(j:Int)) (cI n) (allE m b.Dur):=by simp
    apply kO;apply ye;(iterate 4 refine ya ?_);refine zk ?_;refine kK ?_;apply kQ;refine zb1 ⟨[(4,.ptr 4 0 0 0),(5,.ptr 5 0 0 0),(9,spsA (allE m b.Dur)),(11,.own 30),(12,iv (1+(j:Int))),(13,iv (n:Int)),(14,.bool (smQ b h (1+(j:Int)) (cI n) (allE m b.Dur))),(15,.bool (plQ b h (1+(j:Int)) (cI n) (allE m b.Dur))),(17,.ptr 17 0 0 0)],[(4,.box (btE b) 100),(5,.box (hbE h) 32),(30,.row sgsE (rjL m b h j n) 33 1),(17,.box (sgE (foB b.Rest (1+(j:Int)) (cI n))) 90)]⟩ (λU=>?_) ?_
    ·refine gd ?_ ?_<;>intro u4
     ·have x3:sgE ⟨2,(1+(j:Int)),0,0,false,0,false,false,⟨0,0,0,0⟩,false,0,0,0,0⟩=sgE (foB b.Rest (1+(j:Int)) (cI n)):=by grind[foB]
      apply yj;(iterate 2 refine ya ?_);refine kK ?_;apply kQ;exact kJ yi U
     ·have x3:sgE ⟨1,(1+(j:Int)),4,0,decide ((n:Int)=1),0,false,false,⟨0,0,0,0⟩,false,0,0,0,0⟩=sgE (foB b.Rest (1+(j:Int)) (cI n)):=by simp_all[foB,cI]
      apply yk;exact kJ yi U
    refine zb1 ⟨[(4,.ptr 4 0 0 0),(5,.ptr 5 0 0 0),(9,spsA (allE m b.Dur)),(11,.own 30),(12,iv (1+(j:Int))),(13,iv (n:Int)),(14,.bool (smQ b h (1+(j:Int)) (cI n) (allE m b.Dur))),(17,.ptr 17 0 0 0)],[(4,.box (btE b) 100),(5,.box (hbE h) 32),(30,.row sgsE (rjP m b h j n) 33 1),(17,.box (sgE (foB b.Rest (1+(j:Int)) (cI n))) 90)]⟩ (λT=>?_) ?_
    ·refine gd ?_ ?_<;>intro J
     ·have I:=zyj J;have u3:=x4 n (by omega);refine gq ?_;refine kT (yu (enc:=sgE) (l:=[foB b.Rest (1+(j:Int)) (cI n)]) sl33 ty90 ze90 (by decide) rfl rfl rfl rfl (by decide) (by decide) (λ_=>rfl) rfl) rfl rfl ?_;refine kT (yu (enc:=sgsE) (l:=[[foB b.Rest (1+(j:Int)) (cI n)]]) sl56 ty33 ze33 (by decide) rfl rfl rfl rfl (by decide) (by decide) (λ_=>rfl) rfl) rfl rfl ?_;refine kK ?_;refine yh ?_;exact kJ yi T
     ·have I:=zyk (m:=m) (by simpa using J);apply yk;exact kJ yi T
    apply ye;refine ya ?_;refine kI 1 ?_;refine yp ?_;(iterate 2 refine kG ?_);refine gf ?_ ?_<;>intro H
    ·have u2:=zst m b h j n (by omega);have G:=zyl (by omega) H.1 H.2;refine gq ?_;refine kT (yu (enc:=sgE) (l:=[foB b.Rest (1+(j:Int)) (cI n),doS]) sl33 ty90 ze90 (by decide) rfl rfl rfl rfl (by decide) (by decide) (λ_=>rfl) rfl) rfl rfl ?_;refine kT (yu (enc:=sgsE) (l:=[[foB b.Rest (1+(j:Int)) (cI n),doS]]) sl56 ty33 ze33 (by decide) rfl rfl rfl rfl (by decide) (by decide) (λ_=>rfl) rfl) rfl rfl ?_;refine gq ?_;refine yz (n+1) (hI:=yi)
    ·have G:=zym (m:=m) (b:=b) (h:=h) (j:=j) (n:=n) (by omega) (by all_goals grind);refine gq ?_;refine yz (n+1) (hI:=yi)
  ·obtain rfl:n=2:=by omega
   have u1:=zyg m b h j;refine gq ?_;refine yz (j+1) (hI:=yi)
 ·obtain rfl:j=8:=by omega
  apply kO;apply ye;refine yE ?_;refine kE ?_;refine kA (k9 (k:=30) rfl) ?_;refine ym ?_ ?_;all_goals(first|exact zE hV|rfl|exact zE h0|(rw[E,hV];rfl))
end
section
def zv3{m:Mn}{l:List Bt}(h:wcE m l=0){b:Bt}(Z:b∈l):wcE m [b]=0:=by
 unfold wcE at*
 split at h
 ·rename_i h0;rw[j3 h0];have:=zk3.1 h b Z;show(if btC b=0 then 0 else btC b)=0;rw[j3 this]
 ·exact absurd h ‹_›
def zv4{m:Mn}{l:List Bt}(h:wcE m l=0){b:Bt}(Z:b∈l)(q:Hb):fmV m b q=frV m b q:=by
 unfold fmV;rw[j3 (zv3 h Z)]
attribute [local irreducible] Pur yA yC Ex X Fn Imp LeV LeB FnO It yH FnW FnOW FnP FnD
attribute [local irreducible] wcE frV fmV cqO cqN cqS wcnE wcnV durB
set_option maxHeartbeats 1000000 in
def za2(m:Mn)(l:List Bt)(h:Hb)(hl:l.length<=9223372036854775807):Fn prog 19 [mnA m,btsA l,hbA h] (.tup [iv (wcnV m l h),iv (wcnE m l h)]):=by
 have x2:(1:Int)=((cqN m h (l.take 0):Nat):Int):=by unfold cqN;rfl
 have x1:false=cqO m h (l.take 0):=by unfold cqO;rfl
 refine kF func19 ntmps19 (λg w d=>?_);refine gc (za1 m l (by omega)) ?_;refine gd ?_ ?_<;>intro H
 ·have G:=zqV (h:=h) H;obtain⟨hE,V⟩:=G;refine gq ?_;refine ym ?_ ?_;all_goals(first|exact zE V|exact zE hE|(rw[V,Z];done))
 have h0:wcE m l=0:=by omega
 refine gd ?_ ?_<;>intro x0
 ·have E:=zu2 (h:=h) h0 (by omega);obtain⟨hE,V⟩:=E;refine gq ?_;refine ym ?_ ?_;all_goals(first|exact zE V|exact zE hE|(rw[V,Z];done))
 have U:¬12<l.length:=by omega
 apply yk;apply ye;refine ya ?_;apply yG;refine yh ?_;apply yf;apply ye;refine yh ?_;apply kB;refine zu (λk=>[(1,btsA l),(3,.ptr 3 0 0 0),(5,.ptr 5 0 0 0),(9,iv ((cqN m h (l.take k):Nat):Int)),(10,.bool (cqO m h (l.take k))),(11,iv (k:Int))]) (λk=>[(3,.box (mnE m) 23),(5,.box (hbE h) 32)]) l.length (λk hk=>?_);refine gd ?_ ?_<;>intro w2
 ·obtain⟨b,I⟩:∃b,l[k]? =some b:=⟨_,lgg (by omega)⟩;have v9:l[(k:Int).toNat]? =some b:=by simpa using I
  have T:=zck m b h;rw[zv4 h0 (j6 I)]at T;have hf:=zgM m b h
  have hO:(cqO m h (l.take k)||decide (((frV m b h).length:Int)=0))=cqO m h (l.take (k+1)):=by
   rw[zy5 I];exact j5 _ (decide_eq_decide.2 (by omega))
  have hq:cqN m h (l.take (k+1))<=131072:=by unfold cqN;exact zwB m h _ 1 (by decide)
  have hs:=zy6 (m:=m) (h:=h) I;refine gq ?_;refine yW [12,13,29,30,31,32,33,34,35,36,37,38] [0,0,0,6,14,0,63,127,255,255,511,2047] mo ?_;iterate 6 refine yb ?_
  refine yL T ?_;iterate 5 refine yb ?_
  refine yF ?_;apply yG;refine ya ?_;refine kI 1 ?_;refine yp ?_;iterate 3 refine kG ?_
  refine zdK ?_;iterate 2 refine ya ?_
  apply yG;iterate 3 refine ya ?_
  refine kI 3 ?_;refine yp ?_;iterate 2 refine kG ?_
  refine gf ?_ ?_<;>intro v8
  ·have hN:((cqN m h (l.take k):Nat):Int)*((frV m b h).length:Int)=((cqN m h (l.take (k+1)):Nat):Int):=by rw[hs];exact zyn (by omega) (by omega)
   refine gq ?_;refine yz (k+1) (hI:=yi)
  ·have hN:((cqN m h (l.take k):Nat):Int)=((cqN m h (l.take (k+1)):Nat):Int):=by rw[hs,←zyo (by omega)]
   refine gq ?_;refine yz (k+1) (hI:=yi)
 ·obtain rfl:k=l.length:=by omega
  have Q:cqO m h (l.take l.length)=cqO m h l:=by rw[jH]
  have Z:cqN m h (l.take l.length)=cqN m h l:=by rw[jH]
  refine gd ?_ ?_<;>intro N
  ·have xT:=zBp h0 U (by rw[←Q];exact N);obtain⟨hE,V⟩:=xT;refine gq ?_;refine ym ?_ ?_;all_goals(first|exact zE V|exact zE hE|(rw[V,Z];done))
  have J:cqO m h l=false:=by rw[←Q];simpa using N
  refine gd ?_ ?_<;>intro v5
  ·have x4:=zBq h0 U J (by rw[←Z];omega);obtain⟨hE,V⟩:=x4;refine gq ?_;refine ym ?_ ?_;all_goals(first|exact zE V|exact zE hE|(rw[V,Z];done))
  have x3:=zBr h0 U J (by rw[←Z];omega);obtain⟨hE,V⟩:=x3;refine gq ?_;refine ym ?_ ?_;all_goals(first|exact zE V|exact zE hE|(rw[V,Z];done))
def zbp(l:List Bt)(hl:l.length<=4000000000):Fn prog 83 [btsA l] (tmsA (durB l)):=by
 have V:[]=durB (l.take 0):=by unfold durB;rfl
 refine kF func83 ntmps83 (λg w d=>?_);apply ye;refine ya ?_;apply yG;refine yh ?_;iterate 2 apply yf
 refine kJ (yI tmE 83 2 3 30 rfl rfl) ?_;apply yj;refine yh ?_;apply kB;refine zu (λk=>[(0,btsA l),(3,.own 30),(4,iv (k:Int))]) (λk=>[(30,.row tmE (durB (l.take k)) 83 2)]) l.length (λk I=>?_);refine gd ?_ ?_<;>intro U
 ·obtain⟨b,Z⟩:∃b,l[k]? =some b:=⟨_,lgg (by omega)⟩;have T:l[(k:Int).toNat]? =some b:=by simpa using Z
  have Q:=zk5 Z;have N:(durB (l.take k)).length<=l.length:=by rw[zeG,jM];omega
  refine gq ?_;refine yD tmE [b.Dur] ?_;refine gq ?_;refine yz (k+1) (hI:=yi)
 ·obtain rfl:k=l.length:=by omega
  have J:durB (l.take l.length)=durB l:=by rw[jH]
  apply kO;apply ye;refine yO ?_;refine kE ?_;refine kA (k9 (k:=30) rfl) ?_;refine gq ?_;all_goals(exact j5 (λz=>tmsA z) J)
def zei(l:List Bt)(hl:l.length<=4000000000):Fn prog 32 [btsA l] (tmsA (durB l)):=by
 have V:[]=durB (l.take 0):=by unfold durB;rfl
 refine kF func32 ntmps32 (λg w d=>?_);apply ye;refine ya ?_;apply yG;refine yh ?_;iterate 2 apply yf
 refine kJ (yI tmE 83 2 3 30 rfl rfl) ?_;apply yj;refine yh ?_;apply kB;refine zu (λk=>[(0,btsA l),(3,.own 30),(4,iv (k:Int))]) (λk=>[(30,.row tmE (durB (l.take k)) 83 2)]) l.length (λk I=>?_);refine gd ?_ ?_<;>intro U
 ·obtain⟨b,Z⟩:∃b,l[k]? =some b:=⟨_,lgg (by omega)⟩;have T:l[(k:Int).toNat]? =some b:=by simpa using Z
  have Q:=zk5 Z;have N:(durB (l.take k)).length<=l.length:=by rw[zeG,jM];omega
  refine gq ?_;refine yD tmE [b.Dur] ?_;refine gq ?_;refine yz (k+1) (hI:=yi)
 ·obtain rfl:k=l.length:=by omega
  have J:durB (l.take l.length)=durB l:=by rw[jH]
  apply kO;apply ye;refine yO ?_;refine kE ?_;refine kA (k9 (k:=30) rfl) ?_;refine gq ?_;all_goals(exact j5 (λz=>tmsA z) J)
end
section
attribute [local irreducible] Pur yA yC Ex X Fn Imp LeV LeB FnO It yH FnW FnOW FnP FnD
attribute [local irreducible] wcnE wcnV
end
section
def hbL(a b:Hb):Bool:=(!a.Color||b.Color)&&(!a.Dots||b.Dots)&&(!a.Alter||b.Alter)
def znU{a b:Hb}:hbL a b=true↔(a.Color=true->b.Color=true)/\(a.Dots=true->b.Dots=true)/\(a.Alter=true->b.Alter=true):=by
 grind[hbL]
def zqf{a b:Hb}(h:hbL a b=true):(a.Color=true->b.Color=true)/\(a.Dots=true->b.Dots=true)/\(a.Alter=true->b.Alter=true):=znU.1 h
theorem zqg{s:Sp}{a b:Hb}(h:hbL a b=true)(hs:usQ s a=true):usQ s b=true:=by
 obtain⟨Z,V,U⟩:=zqf h
 grind[usQ]
theorem zl1{x:Bt}{s:Sp}{a b:Hb}(h:hbL a b=true)(hs:slQ x a s=true):slQ x b s=true:=by
 grind[slQ,zqg]
def zqh{α:Type}{p q:Bool}{l:List α}(h:p=true->q=true):(if p=true then l else[]).Sublist (if q=true then l else[]):=by
 grind
def zl2{α:Type}{L:List α}{p q:α->Bool}(h:∀x,p x=true->q x=true)(Z:L.any p=true):L.any q=true:=by
 grind
def znV{x:Bt}{a b:Hb}(h:hbL a b=true)(L:List Sp)(v:Int)(c:Bool):(rkC x a L v c).Sublist (rkC x b L v c):=by
 unfold rkC;refine List.Sublist.append (zqh (zl2 λs hs=>?_)) (zqh λZ=>?_)
 ·grind[zl1]
 ·rw[j7]at*
  refine⟨zl2 (λs hs=>?_) Z.1,(zqf h).2.1 Z.2⟩
  grind[zl1]
def znW{x:Bt}{a b:Hb}(h:hbL a b=true)(L:List Sp):∀n,(rkL x a L n).Sublist (rkL x b L n)
 |0=>xC _
 |n+1=>(znW h L n).append ((znV h L _ _).append (znV h L _ _))
def znX{x:Bt}{a b:Hb}(h:hbL a b=true)(m:Mn):(frV m x a).Sublist (frV m x b):=(znW h _ 8).map _
def zsu{x:Bt}{a b:Hb}(h:hbL a b=true)(m:Mn):(fmV m x a).Sublist (fmV m x b):=by
 unfold fmV;split
 ·exact znX h m
 ·exact xC _
def zl3{α β:Type}{f g:α->List β}(hf:∀x,(f x).Sublist (g x)){l k:List α}(h:l.Sublist k):(l.flatMap f).Sublist (k.flatMap g):=by
 induction h with
 |slnil=>exact xC _
 |cons a _ ih=>rw[u6];exact ih.trans (List.sublist_append_right _ _)
 |cons_cons a _ ih=>rw[u6,u6];exact(hf a).append ih
def znY{a b:Hb}(h:hbL a b=true)(m:Mn):∀(l:List Bt)(r:List Sg),(wuL (fmL m l a) r).Sublist (wuL (fmL m l b) r)
 |[],r=>xC _
 |x::l,r=>zl3 (λy=>znY h m l (r++y)) (zsu h m)
def zsv{a b:Hb}(h:hbL a b=true)(m:Mn)(l:List Bt):(wyL m l a).Sublist (wyL m l b):=(znY h m l []).filter _
def znZ{a b:Hb}(h:hbL a b=true)(m:Mn):∀(l:List Bt),cnP m a l<=cnP m b l
 |[]=>jD _
 |x::l=>xY (znX h m).length_le (znZ h m l)
def FmQ(r:Bool)(x:List Sg):Prop:=∃s:Sg,(s.Kind=1\/s.Kind=2/\s.Color=false)/\decide (s.Kind=2)=r/\(x=[s]\/x=[s,dtS])
def zv5(r:Bool)(f:Fo):FmQ r (foS r f):=by
 grind[foS,FmQ]
def zv6{m:Mn}{b:Bt}{h:Hb}{x:List Sg}(hx:x∈fmV m b h):FmQ b.Rest x:=by
 unfold fmV at hx;split at hx
 ·obtain⟨f,-,rfl⟩:=jW.1 hx;exact zv5 _ _
 ·simp at hx
def zsw(a b:List Sg):rsL (a++b)=rsL a++rsL b:=by simp[rsL]
def zv7{r:Bool}{x:List Sg}(h:FmQ r x):rsL x=[r]:=by
 obtain⟨s,Z,V,U⟩:=h
 grind[rsL]
def cqQ(y:List Sg):Prop:=∀s∈y,s.Color=true->s.Kind=1
def zv8{a b:List Sg}(Z:cqQ a)(V:cqQ b):cqQ (a++b):=λs hs=>by
 rcases wN.1 hs with h|h
 ·exact Z s h
 ·exact V s h
def zyp{r:Bool}{x:List Sg}(h:FmQ r x):cqQ x:=by
 obtain⟨s,Z,-,V⟩:=h
 grind[cqQ]
def zqi(m:Mn)(h:Hb):∀(l:List Bt)(r y:List Sg),y∈wuL (fmL m l h) r->rsL y=rsL r++l.map (·.Rest)/\(cqQ r->cqQ y)
 |[],r,y,Z=>by
  have:y=r:=vK.1 Z;subst this;simp
 |b::l,r,y,Z=>by
  obtain⟨x,hx,Z⟩:=List.mem_flatMap.1 (show y∈(fmV m b h).flatMap λx=>wuL (fmL m l h) (r++x)from Z);obtain⟨V,U⟩:=zqi m h l (r++x) y Z;have hf:=zv6 hx;refine⟨?_,λhr=>U (zv8 hr (zyp hf))⟩;rw[V,zsw,zv7 hf,v7];rfl
def zqj{m:Mn}{l:List Bt}{h:Hb}{y:List Sg}(Z:y∈wyL m l h):rsL y=l.map (·.Rest)/\cqQ y/\rdE m y=0/\(rdV m y).Durs=durB l:=by
 unfold wyL at Z;obtain⟨V,U⟩:=wO.1 Z;obtain⟨T,Q⟩:=zqi m h l [] y V
 grind[reQ,rsL,cqQ]
def zqk(m:Mn)(D:List Tm):∀(F:List (List (List Sg)))(r:List Sg),srV m D F r=((wuL F r).filter λx=>reQ m x D).head?
 |[],r=>by
  grind[srV,wuL]
 |f::F,r=>by
  show f.findSome? (λx=>srV m D F (r++x))=((f.flatMap λx=>wuL F (r++x)).filter _).head?;rw[List.filter_flatMap,List.head?_flatMap];congr 1;funext x;exact zqk m D F (r++x)
theorem zql{m:Mn}{l:List Bt}(h:wcE m l=0){b:Bt}(Z:b∈l):wcE m [b]=0:=by
 grind[wcE,zk3]
def zyq{m:Mn}{l:List Bt}(Z:wcE m l=0)(h:Hb):fmL m l h=chV m l h:=by
 grind[fmL,chV,List.map_congr_left,fmV,zql]
theorem zqm{m:Mn}{l:List Bt}(Z:wcE m l=0)(h:Hb):wrO m l h=(wyL m l h).head?:=by
 unfold wrO wyL;rw[zqk,zyq Z]
end
end Go.Rse
