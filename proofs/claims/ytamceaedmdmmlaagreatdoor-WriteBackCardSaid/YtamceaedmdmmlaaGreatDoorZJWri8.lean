/-
  Walks.
-/
import Derived.Test.YtamceaedmdmmlaaGreatDoorZJRef22
set_option linter.all false
set_option maxHeartbeats 4000000
namespace Go.Rse
open Go Go.Proofs Go.Proofs.Tryz
attribute [local irreducible] Pur yy yz Ex X Fn Imp LeV LeB FnO It yH FnW FnOW FnP FnD
section
def zBK{m:Mn}{l:List Bt}{k:Nat}{b:Bt}(h0:ckM m=0)(Z:l[k]? =some b)(V:btF (l.take k)=0)(h:¬btC b=0):wcE m l=btC b:=by
 have e:=zjk Z V
 grind[wcE,zjl]
def zBL{l:List Bt}{k:Nat}{b:Bt}(Z:l[k]? =some b)(V:btF (l.take k)=0)(h:btC b=0):btF (l.take (k+1))=0:=by
 rw[zjk Z V,h]
def pvQ(b:Bt)(h:Hb)(v:Int)(c:Bool)(s:Sp):Bool:=decide (s.Value=v)&&decide (s.Color=c)&&urQ b h s
def smQ(b:Bt)(h:Hb)(v:Int)(c:Bool)(L:List Sp):Bool:=L.any (pvQ b h v c)
def plQ(b:Bt)(h:Hb)(v:Int)(c:Bool)(L:List Sp):Bool:=L.any λs=>pvQ b h v c s&&!s.Dot
def zBM{b:Bt}{h:Hb}{v:Int}{c:Bool}{L:List Sp}{k:Nat}{s:Sp}(hs:L[k]? =some s):smQ b h v c (L.take (k+1))=(smQ b h v c (L.take k)||pvQ b h v c s):=by
 unfold smQ;rw[jG,hs];simp
def zBN{b:Bt}{h:Hb}{v:Int}{c:Bool}{L:List Sp}{k:Nat}{s:Sp}(hs:L[k]? =some s):plQ b h v c (L.take (k+1))=(plQ b h v c (L.take k)||(pvQ b h v c s&&!s.Dot)):=by
 unfold plQ;rw[jG,hs];simp
def zyQ{α:Type}{p q:α->Bool}:∀{L:List α},(∀x∈L,p x=q x)->L.any p=L.any q
 |[],_=>rfl
 |x::r,h=>by grind
theorem zsd{m:Mn}{b:Bt}{h:Hb}{v:Int}{c:Bool}:rkC b h (allE m b.Dur) v c=(if plQ b h v c (allE m b.Dur)then[⟨v,c,false⟩]else[])++(if smQ b h v c (allE m b.Dur)&&h.Dots then[⟨v,c,true⟩]else[]):=by
 unfold rkC plQ smQ
 have e1:((allE m b.Dur).any λs=>slQ b h s&&decide (s.Value=v)&&decide (s.Color=c)&&!s.Dot)=(allE m b.Dur).any λs=>pvQ b h v c s&&!s.Dot:=zyQ λs hs=>by
  unfold pvQ;rw[zwL hs];cases slQ b h s<;>simp
 grind[pvQ,zwL]
def rkW(b:Bt)(h:Hb)(L:List Sp)(v:Int):Nat->List Fo
 |0=>[]
 |1=>rkC b h L v false
 |_=>rkV b h L v
def cI(n:Nat):Bool:=decide ((n:Int)=1)
theorem zwR{b:Bt}{h:Hb}{L:List Sp}{v:Int}{n:Nat}(hn:n<2):rkW b h L v n++rkC b h L v (cI n)=rkW b h L v (n+1):=by
 rcases n with _|_|n
 ·rfl
 ·rfl
 ·omega
def rjL(m:Mn)(b:Bt)(h:Hb)(j n:Nat):List (List Sg):=(rkL b h (allE m b.Dur) j++rkW b h (allE m b.Dur) (1+(j:Int)) n).map (foS b.Rest)
def zBO(m:Mn)(b:Bt)(h:Hb):[]=rjL m b h 0 0:=rfl
def zBP(m:Mn)(b:Bt)(h:Hb)(j:Nat):rjL m b h j 2=rjL m b h (j+1) 0:=by
 unfold rjL
 grind[rkW,rkL]
def zBQ(m:Mn)(b:Bt)(h:Hb):rjL m b h 8 0=frV m b h:=by
 simp[rjL,frV,frL,rkW]
def zut(b:Bt)(h:Hb)(L:List Sp)(n:Nat):(rkL b h L n).length<=4*n:=by
 induction n with
 |zero=>simp[rkL]
 |succ n ih=>
  have Z:∀c,(rkC b h L (1+(n:Int)) c).length<=2:=λc=>by
   unfold rkC;rw[jC];split<;>split<;>simp
  grind[rkL,rkV]
theorem zpi(m:Mn)(b:Bt)(h:Hb)(j n:Nat)(V:j<=8):(rjL m b h j n).length<=100:=by
 unfold rjL;rw[jS,jC];have h1:=zut b h (allE m b.Dur) j
 have Z:∀c,(rkC b h (allE m b.Dur) (1+(j:Int)) c).length<=2:=λc=>by
  grind[rkC]
 have U:=Z false;have T:=Z true
 have N:(rkW b h (allE m b.Dur) (1+(j:Int)) n).length<=4:=by
  rcases n with _|_|n
  ·simp[rkW]
  ·grind[rkW]
  ·show(rkV b h (allE m b.Dur) (1+(j:Int))).length<=4
   grind[rkV]
 omega
def foB(r:Bool)(v:Int)(c:Bool):Sg:=if r then⟨2,v,0,0,false,0,false,false,⟨0,0,0,0⟩,false,0,0,0,0⟩else⟨1,v,4,0,c,0,false,false,⟨0,0,0,0⟩,false,0,0,0,0⟩
abbrev doS:Sg:=⟨3,0,0,0,false,0,false,false,⟨0,0,0,0⟩,false,0,0,0,0⟩
theorem zwS(r:Bool)(v:Int)(c:Bool):foS r ⟨v,c,false⟩=[foB r v c]:=by rfl
theorem zBR(r:Bool)(v:Int)(c:Bool):foS r ⟨v,c,true⟩=[foB r v c,doS]:=by rfl
def rjP(m:Mn)(b:Bt)(h:Hb)(j n:Nat):List (List Sg):=rjL m b h j n++(if plQ b h (1+(j:Int)) (cI n) (allE m b.Dur)then[[foB b.Rest (1+(j:Int)) (cI n)]]else[])
def zuu(m:Mn)(b:Bt)(h:Hb)(j n:Nat)(Z:j<=8):(rjP m b h j n).length<=101:=by
 grind[zpi,rjP]
def zBS{m:Mn}{b:Bt}{h:Hb}{j n:Nat}(Z:plQ b h (1+(j:Int)) (cI n) (allE m b.Dur)=true):rjL m b h j n++[[foB b.Rest (1+(j:Int)) (cI n)]]=rjP m b h j n:=by grind[rjP]
def zBT{m:Mn}{b:Bt}{h:Hb}{j n:Nat}(Z:plQ b h (1+(j:Int)) (cI n) (allE m b.Dur)=false):rjL m b h j n=rjP m b h j n:=by unfold rjP;rw[Z];simp
def zBU{m:Mn}{b:Bt}{h:Hb}{j n:Nat}(hn:n<2)(Z:smQ b h (1+(j:Int)) (cI n) (allE m b.Dur)=true)(V:h.Dots=true):rjP m b h j n++[[foB b.Rest (1+(j:Int)) (cI n),doS]]=rjL m b h j (n+1):=by
 unfold rjP rjL
 grind[zwR,zsd,zwS,zBR]
def zBV{m:Mn}{b:Bt}{h:Hb}{j n:Nat}(hn:n<2)(Z:¬(smQ b h (1+(j:Int)) (cI n) (allE m b.Dur)=true/\h.Dots=true)):rjP m b h j n=rjL m b h j (n+1):=by
 have hx:(smQ b h (1+(j:Int)) (cI n) (allE m b.Dur)&&h.Dots)=false:=by
  cases h1:smQ b h (1+(j:Int)) (cI n) (allE m b.Dur)<;>cases V:h.Dots<;>simp[h1,V]at Z⊢
 grind[rjP,rjL,zwR,zsd,zwS]
def zE6{m:Mn}{l:List Bt}{h:Hb}(c:wcE m l=0)(c2:¬12<l.length)(c3:cqO m h l=true):wcnE m l h=0/\wcnV m l h=0:=by
 simp_all[zph,zo5]
def zE7{m:Mn}{l:List Bt}{h:Hb}(c:wcE m l=0)(c2:¬12<l.length)(c3:cqO m h l=false)(c4:4096<cqN m h l):wcnE m l h=15/\wcnV m l h=0:=by
 have q:=(zwM m h l 1 (jE _) c3).1;rw[kF]at q;exact zrM c c2 (q.1 c4)
def zE8{m:Mn}{l:List Bt}{h:Hb}(c:wcE m l=0)(c2:¬12<l.length)(c3:cqO m h l=false)(c4:¬4096<cqN m h l):wcnE m l h=0/\wcnV m l h=(cqN m h l:Int):=by
 simp_all[zwM,cqN,zo5]
def zBW{m:Mn}{h:Hb}{n:Nat}{b:Bt}(h1:0<(frV m b h).length)(Z:n<=4096):(n:Int)*((frV m b h).length:Int)=((cqS m h n b:Nat):Int):=by
 simp_all[cqS]
def zBX{m:Mn}{h:Hb}{n:Nat}{b:Bt}(h1:¬(0<(frV m b h).length/\n<=4096)):n=cqS m h n b:=by
 grind[cqS]
attribute [local irreducible] wcE btF btC ckT ckM allE bthE urQ pvQ smQ plQ rjL rjP frV cqO cqN cqS wcnE wcnV fmV
def zgf(b:Bt):Fn prog 56 [btA b] (iv (btC b)):=by
 refine kR func56 ntmps56 (λg w d=>?_);refine gc (zS b.Dur) ?_;refine gd ?_ ?_<;>intro V
 ·have Z:btC b=ckT b.Dur:=by grind[btC]
  refine gq ?_;all_goals rw[Z]
 have h0:ckT b.Dur=0:=by omega
 refine gd ?_ ?_<;>intro U
 ·have Z:btC b=2:=by simp_all[btC]
  refine gq ?_;all_goals rw[Z]
 have Z:btC b=0:=by simp_all[btC]
 refine gq ?_;all_goals rw[Z]
def za8(m:Mn)(l:List Bt)(hl:l.length<=9223372036854775807):Fn prog 29 [mnA m,btsA l] (iv (wcE m l)):=by
 refine kR func29 ntmps29 (λg w d=>?_);refine gc (zn m) ?_;refine gd ?_ ?_<;>intro U
 ·have V:=zr5 (l:=l) U;refine gq ?_;all_goals rw[V]
 have h0:ckM m=0:=by omega
 have H:iv (ckM m)=iv 0:=by rw[h0]
 refine gq ?_
 refine zen (ι:=Nat) (λ(k:Nat)=>[(1,btsA l),(5,iv 0),(6,iv (k:Int))]) (λ(k:Nat)=>[]) (λ(k:Nat)=>k<=l.length/\btF (l.take k)=0) (λ(k:Nat)=>l.length-k) 0 (λk hk=>?_) (hJ:=by
  simp[btF]) (h0:=by exact yg)
 obtain⟨G,Z⟩:=hk;refine gd ?_ ?_<;>intro E
 ·have T:=@getX _ l k (by omega);obtain⟨b,J,xT⟩:=T;refine gc (zgf b) ?_;refine gd ?_ ?_<;>intro N
  ·have V:=zBK h0 J Z N;refine gq ?_;all_goals rw[V]
  have h3:btC b=0:=by omega
  have x4:=zBL J Z h3;refine gq ?_
  refine yu (k+1) (hJ:=by
   omega) (hI:=yg)
 ·obtain rfl:k=l.length:=by omega
  have V:=zBx h0 Z;refine gq ?_;all_goals rw[V]
def zgg(s:Sp)(b:Bt)(h:Hb):Fn prog 58 [spA s,btA b,hbA h] (.bool (urQ b h s)):=by
 refine kR func58 ntmps58 (λg w d=>?_);apply ye;iterate 3 refine zz ?_
 refine ya ?_;apply yE;iterate 5 refine ya ?_
 refine kU 5 ?_;refine yo ?_;iterate 7 refine kS ?_
 iterate 2 refine yo ?_
 iterate 7 refine kS ?_
 iterate 2 refine yo ?_
 iterate 7 refine kS ?_
 refine zdM ?_;refine yQ ?_;refine kQ ?_;refine zaA ?_
 grind[urQ]
def zfy(m:Mn)(b:Bt)(h:Hb):Fn prog 30 [mnA m,btA b,hbA h] (.tup [zeI (fmV m b h),iv (wcE m [b])]):=by
 have w9:=zo4 m b.Dur;have w2:=zBO m b h;have x4:=zBQ m b h;refine kR func30 ntmps30 (λg w d=>?_);refine gq ?_;refine bE (yr (enc:=btE) (l:=[b]) sl29 ty63 ze63 (by decide) rfl rfl rfl rfl (by decide) (by decide) (λ_=>rfl) rfl) rfl rfl ?_;refine gc (za8 m [b] (by simp)) ?_;refine gd ?_ ?_<;>intro x3
 ·have hV:fmV m b h=[]:=by unfold fmV;rw[j7 x3]
  apply ye;refine yC ?_;refine kQ ?_;refine kM (yd (ts:=[(6,zeI []),(7,iv (wcE m [b]))]) (hs:=[])) ?_;refine yl ?_ ?_;all_goals simp_all
 have h0:wcE m [b]=0:=by omega
 have hV:fmV m b h=frV m b h:=by grind[fmV]
 refine gq ?_;refine yR (zgJ m b.Dur) ?_;iterate 5 refine ya ?_
 apply yE;refine yj ?_;iterate 2 apply yh
 refine kT (yG sgsE 35 1 11 30 rfl rfl) ?_;apply yf;refine yj ?_;apply kP;refine zm (λj=>[(4,.ptr 4 0 0 0),(5,.ptr 5 0 0 0),(9,spsA (allE m b.Dur)),(11,.own 30),(12,iv (1+(j:Int)))]) (λj=>[(4,.box (btE b) 63),(5,.box (hbE h) 24),(30,.row sgsE (rjL m b h j 0) 35 1)]) 8 (λj hk=>?_);refine gd ?_ ?_<;>intro v9
 ·have x2:=zpi m b h j;apply yk;apply yh;apply kP;apply ye;refine yj ?_;apply kP;refine zm (λn=>[(4,.ptr 4 0 0 0),(5,.ptr 5 0 0 0),(9,spsA (allE m b.Dur)),(11,.own 30),(12,iv (1+(j:Int))),(13,iv (n:Int))]) (λn=>[(4,.box (btE b) 63),(5,.box (hbE h) 24),(30,.row sgsE (rjL m b h j n) 35 1)]) 2 (λn hk=>?_);refine gd ?_ ?_<;>intro v8
  ·have v5:false=smQ b h (1+(j:Int)) (cI n) ((allE m b.Dur).take 0):=by unfold smQ;rfl
   have v4:false=plQ b h (1+(j:Int)) (cI n) ((allE m b.Dur).take 0):=by unfold plQ;rfl
   apply yk;apply yh;apply kP;apply ye;refine yQ ?_;apply yh;apply ye;refine yj ?_;apply kP;refine zm (λi=>[(4,.ptr 4 0 0 0),(5,.ptr 5 0 0 0),(9,spsA (allE m b.Dur)),(11,.own 30),(12,iv (1+(j:Int))),(13,iv (n:Int)),(14,.bool (smQ b h (1+(j:Int)) (cI n) ((allE m b.Dur).take i))),(15,.bool (plQ b h (1+(j:Int)) (cI n) ((allE m b.Dur).take i))),(16,iv (i:Int))]) (λi=>[(4,.box (btE b) 63),(5,.box (hbE h) 24),(30,.row sgsE (rjL m b h j n) 35 1)]) ((allE m b.Dur).length) (λi hk=>?_);refine gd ?_ ?_<;>intro v3
   ·have x1:=@getX _ (allE m b.Dur) i (by omega);obtain⟨s,hs,v2⟩:=x1;have Z:=zBM (b:=b) (h:=h) (v:=(1+(j:Int))) (c:=cI n) hs;have V:=zBN (b:=b) (h:=h) (v:=(1+(j:Int))) (c:=cI n) hs;refine gq ?_;refine yW [46,47,48,49,50,51,52,53,54,55,56,57,58,59,60,61,62,63,64,65,66,67,68,69,70,71] [0,0,3,7,15,0,63,127,255,255,1023,2047,4095,255,8447,32767,65535,131071,262143,262143,1048575,2097151,262143,262143,16777215,33554431] mo ?_;(iterate 8 refine yb ?_);(iterate 8 refine kZ ?_);(iterate 2 refine yb ?_);(iterate 6 refine kZ ?_);refine bK (zgg s b h) ?_;refine yb ?_;refine yI ?_;refine gd ?_ ?_<;>intro v1
    ·have hp:pvQ b h (1+(j:Int)) (cI n) s=true:=by
      simp_all[pvQ,cI]
     rw[hp]at Z V;simp only[Bool.or_true,kH]at Z V;have N:=Z.symm;have J:=V.symm;apply ye;refine yj ?_;apply yf;refine ya ?_;refine kU 1 ?_;refine yo ?_;(iterate 6 refine kS ?_);refine ge ?_;refine yu (i+1) (hI:=yg)
    ·have hp:pvQ b h (1+(j:Int)) (cI n) s=false:=by
      grind[pvQ,cI]
     rw[hp]at Z V;simp only[Bool.or_false,Bool.false_and]at Z V;have N:=Z.symm;have J:=V.symm;refine gq ?_;refine yu (i+1) (hI:=yg)
   ·obtain rfl:i=(allE m b.Dur).length:=by omega
    have v0:smQ b h (1+(j:Int)) (cI n) ((allE m b.Dur).take (allE m b.Dur).length)=smQ b h (1+(j:Int)) (cI n) (allE m b.Dur):=by simp
    have u4:plQ b h (1+(j:Int)) (cI n) ((allE m b.Dur).take (allE m b.Dur).length)=plQ b h (1+(j:Int)) (cI n) (allE m b.Dur):=by simp
    apply bA;apply ye;(iterate 4 refine ya ?_);refine za ?_;refine kV ?_;apply kW;refine zF ⟨[(4,.ptr 4 0 0 0),(5,.ptr 5 0 0 0),(9,spsA (allE m b.Dur)),(11,.own 30),(12,iv (1+(j:Int))),(13,iv (n:Int)),(14,.bool (smQ b h (1+(j:Int)) (cI n) (allE m b.Dur))),(15,.bool (plQ b h (1+(j:Int)) (cI n) (allE m b.Dur))),(17,.ptr 17 0 0 0)],[(4,.box (btE b) 63),(5,.box (hbE h) 24),(30,.row sgsE (rjL m b h j n) 35 1),(17,.box (sgE (foB b.Rest (1+(j:Int)) (cI n))) 76)]⟩ (λU=>?_) ?_
    ·refine gd ?_ ?_<;>intro u3
     ·have x0:sgE ⟨2,(1+(j:Int)),0,0,false,0,false,false,⟨0,0,0,0⟩,false,0,0,0,0⟩=sgE (foB b.Rest (1+(j:Int)) (cI n)):=by grind[foB]
      apply yf;(iterate 2 refine ya ?_);refine kV ?_;apply kW;exact kT yg U
     ·have x0:sgE ⟨1,(1+(j:Int)),4,0,decide ((n:Int)=1),0,false,false,⟨0,0,0,0⟩,false,0,0,0,0⟩=sgE (foB b.Rest (1+(j:Int)) (cI n)):=by simp_all[foB,cI]
      apply yk;exact kT yg U
    refine zF ⟨[(4,.ptr 4 0 0 0),(5,.ptr 5 0 0 0),(9,spsA (allE m b.Dur)),(11,.own 30),(12,iv (1+(j:Int))),(13,iv (n:Int)),(14,.bool (smQ b h (1+(j:Int)) (cI n) (allE m b.Dur))),(17,.ptr 17 0 0 0)],[(4,.box (btE b) 63),(5,.box (hbE h) 24),(30,.row sgsE (rjP m b h j n) 35 1),(17,.box (sgE (foB b.Rest (1+(j:Int)) (cI n))) 76)]⟩ (λT=>?_) ?_
    ·refine gd ?_ ?_<;>intro H
     ·have G:=zBS H;have u2:=x2 n (by omega);refine gq ?_;refine bE (yr (enc:=sgE) (l:=[foB b.Rest (1+(j:Int)) (cI n)]) sl35 ty76 ze76 (by decide) rfl rfl rfl rfl (by decide) (by decide) (λ_=>rfl) rfl) rfl rfl ?_;refine bE (yr (enc:=sgsE) (l:=[[foB b.Rest (1+(j:Int)) (cI n)]]) sl56 ty35 ze35 (by decide) rfl rfl rfl rfl (by decide) (by decide) (λ_=>rfl) rfl) rfl rfl ?_;refine kV ?_;refine yj ?_;exact kT yg T
     ·have G:=zBT (m:=m) (by simpa using H);apply yk;exact kT yg T
    apply ye;refine ya ?_;refine kU 1 ?_;refine yo ?_;(iterate 2 refine kS ?_);refine gf ?_ ?_<;>intro E
    ·have u1:=zuu m b h j n (by omega);have xT:=zBU (by omega) E.1 E.2;refine gq ?_;refine bE (yr (enc:=sgE) (l:=[foB b.Rest (1+(j:Int)) (cI n),doS]) sl35 ty76 ze76 (by decide) rfl rfl rfl rfl (by decide) (by decide) (λ_=>rfl) rfl) rfl rfl ?_;refine bE (yr (enc:=sgsE) (l:=[[foB b.Rest (1+(j:Int)) (cI n),doS]]) sl56 ty35 ze35 (by decide) rfl rfl rfl rfl (by decide) (by decide) (λ_=>rfl) rfl) rfl rfl ?_;refine gq ?_;refine yu (n+1) (hI:=yg)
    ·have xT:=zBV (m:=m) (b:=b) (h:=h) (j:=j) (n:=n) (by omega) (by all_goals grind);refine gq ?_;refine yu (n+1) (hI:=yg)
  ·obtain rfl:n=2:=by omega
   have k9:=zBP m b h j;refine gq ?_;refine yu (j+1) (hI:=yg)
 ·obtain rfl:j=8:=by omega
  apply bA;apply ye;refine yC ?_;refine kQ ?_;refine kM (kL (k:=30) rfl) ?_;refine yl ?_ ?_;all_goals(first|exact zE hV|rfl|exact zE h0|(rw[x4,hV];rfl))
end
section
def zyR{m:Mn}{l:List Bt}(h:wcE m l=0){b:Bt}(Z:b∈l):wcE m [b]=0:=by
 unfold wcE at*
 split at h
 ·rename_i h0;rw[j6 h0];have:=zgZ.1 h b Z;show(if btC b=0 then 0 else btC b)=0;rw[j6 this]
 ·exact absurd h ‹_›
def zyS{m:Mn}{l:List Bt}(h:wcE m l=0){b:Bt}(Z:b∈l)(q:Hb):fmV m b q=frV m b q:=by
 unfold fmV;rw[j6 (zyR h Z)]
attribute [local irreducible] wcE frV fmV cqO cqN cqS wcnE wcnV durB
def zcq(m:Mn)(l:List Bt)(h:Hb)(hl:l.length<=9223372036854775807):Fn prog 7 [mnA m,btsA l,hbA h] (.tup [iv (wcnV m l h),iv (wcnE m l h)]):=by
 have x0:(1:Int)=((cqN m h (l.take 0):Nat):Int):=by unfold cqN;rfl
 have w9:false=cqO m h (l.take 0):=by unfold cqO;rfl
 refine kR func7 ntmps7 (λg w d=>?_);refine gc (za8 m l (by omega)) ?_;refine gd ?_ ?_<;>intro G
 ·have E:=zrL (h:=h) G;obtain⟨hE,V⟩:=E;refine gq ?_;refine yl ?_ ?_;all_goals(first|exact zE V|exact zE hE|(rw[V,Z];done))
 have h0:wcE m l=0:=by omega
 refine gd ?_ ?_<;>intro w2
 ·have xT:=zwx (h:=h) h0 (by omega);obtain⟨hE,V⟩:=xT;refine gq ?_;refine yl ?_ ?_;all_goals(first|exact zE V|exact zE hE|(rw[V,Z];done))
 have U:¬12<l.length:=by omega
 apply yk;apply ye;refine ya ?_;apply yE;refine yj ?_;apply yh;apply ye;refine yj ?_;apply kP;refine zm (λk=>[(1,btsA l),(3,.ptr 3 0 0 0),(5,.ptr 5 0 0 0),(9,iv ((cqN m h (l.take k):Nat):Int)),(10,.bool (cqO m h (l.take k))),(11,iv (k:Int))]) (λk=>[(3,.box (mnE m) 27),(5,.box (hbE h) 24)]) l.length (λk hk=>?_);refine gd ?_ ?_<;>intro v9
 ·have x4:=@getX _ l k (by omega);obtain⟨b,hb,v8⟩:=x4;have T:=zfy m b h;rw[zyS h0 (j8 hb)]at T;have hf:=zg0 m b h
  have hO:(cqO m h (l.take k)||decide (((frV m b h).length:Int)=0))=cqO m h (l.take (k+1)):=by
   rw[zBA hb];exact j9 _ (decide_eq_decide.2 (by omega))
  have hq:cqN m h (l.take (k+1))<=131072:=by unfold cqN;exact zyM m h _ 1 (by decide)
  have hs:=zBB (m:=m) (h:=h) hb;refine gq ?_;refine yW [12,13,29,30,31,32,33,34,35,36,37,38] [0,0,0,6,14,0,63,127,255,255,511,2047] mo ?_;iterate 6 refine yb ?_
  refine yO T ?_;iterate 5 refine yb ?_
  refine yI ?_;apply yE;refine ya ?_;refine kU 1 ?_;refine yo ?_;iterate 3 refine kS ?_
  refine zdM ?_;iterate 2 refine ya ?_
  apply yE;iterate 3 refine ya ?_
  refine kU 3 ?_;refine yo ?_;iterate 2 refine kS ?_
  refine gf ?_ ?_<;>intro v5
  ·have hN:((cqN m h (l.take k):Nat):Int)*((frV m b h).length:Int)=((cqN m h (l.take (k+1)):Nat):Int):=by rw[hs];exact zBW (by omega) (by omega)
   refine gq ?_;refine yu (k+1) (hI:=yg)
  ·have hN:((cqN m h (l.take k):Nat):Int)=((cqN m h (l.take (k+1)):Nat):Int):=by rw[hs,←zBX (by omega)]
   refine gq ?_;refine yu (k+1) (hI:=yg)
 ·obtain rfl:k=l.length:=by omega
  have N:cqO m h (l.take l.length)=cqO m h l:=by rw[jK]
  have Z:cqN m h (l.take l.length)=cqN m h l:=by rw[jK]
  refine gd ?_ ?_<;>intro J
  ·have x3:=zE6 h0 U (by rw[←N];exact J);obtain⟨hE,V⟩:=x3;refine gq ?_;refine yl ?_ ?_;all_goals(first|exact zE V|exact zE hE|(rw[V,Z];done))
  have H:cqO m h l=false:=by rw[←N];simpa using J
  refine gd ?_ ?_<;>intro v4
  ·have x2:=zE7 h0 U H (by rw[←Z];omega);obtain⟨hE,V⟩:=x2;refine gq ?_;refine yl ?_ ?_;all_goals(first|exact zE V|exact zE hE|(rw[V,Z];done))
  have x1:=zE8 h0 U H (by rw[←Z];omega);obtain⟨hE,V⟩:=x1;refine gq ?_;refine yl ?_ ?_;all_goals(first|exact zE V|exact zE hE|(rw[V,Z];done))
def zbW(l:List Bt)(hl:l.length<=4000000000):Fn prog 13 [btsA l] (tmsA (durB l)):=by
 have V:[]=durB (l.take 0):=by unfold durB;rfl
 refine kR func13 ntmps13 (λg w d=>?_);apply ye;refine ya ?_;apply yE;refine yj ?_;iterate 2 apply yh
 refine kT (yG tmE 61 2 3 30 rfl rfl) ?_;apply yf;refine yj ?_;apply kP;refine zm (λk=>[(0,btsA l),(3,.own 30),(4,iv (k:Int))]) (λk=>[(30,.row tmE (durB (l.take k)) 61 2)]) l.length (λk hk=>?_);refine gd ?_ ?_<;>intro U
 ·have Z:=@getX _ l k (by omega);obtain⟨b,T,N⟩:=Z;have J:=znW T;have H:(durB (l.take k)).length<=l.length:=by rw[zeJ,jO];omega
  refine gq ?_;refine yD tmE [b.Dur] ?_;refine gq ?_;refine yu (k+1) (hI:=yg)
 ·obtain rfl:k=l.length:=by omega
  have G:durB (l.take l.length)=durB l:=by rw[jK]
  apply bA;apply ye;refine yQ ?_;refine kQ ?_;refine kM (kL (k:=30) rfl) ?_;refine gq ?_;all_goals(exact j9 (λz=>tmsA z) G)
end
section
attribute [local irreducible] wcnE wcnV
end
section
def zyT{α:Type}{enc:α->List AV}(o:Option (List α)):(nlA enc o).nm=true:=by cases o<;>rfl
def zBY{m:Mn}{D:List Tm}{run:List Sg}(h:rdE m run=0/\(rdV m run).Durs=D):srV m D [] run=some run:=by
 unfold srV reQ;rw[j6 (by simp[h.1,h.2])]
def zBZ{m:Mn}{D:List Tm}{run:List Sg}(h:¬(rdE m run=0/\(rdV m run).Durs=D)):srV m D [] run=none:=by
 unfold srV reQ;rw[j7];intro e;simp only[jA,w4]at e;exact h e
def zuv{m:Mn}{D:List Tm}{r:List (List (List Sg))}{run:List Sg}{F:List (List Sg)}(h:(F.take F.length).findSome? (λf=>srV m D r (run++f))=none):srV m D (F::r) run=none:=by
 rw[jK]at h;exact h
def zlY{m:Mn}{D:List Tm}{C:List (List (List Sg))}{run:List Sg}(Z:∀F∈C,F.length<=32/\∀f∈F,1<=f.length/\f.length<=2)(h:0<run.length+C.length):∀x,srV m D C run=some x->x≠[]:=λx hx e=>by
 have:=zik (n:=2) (λF V=>(Z F V).2) hx;have h1:=this.1;rw[e]at h1;simp only[wQ]at h1;omega
def zB0{m:Mn}{l:List Bt}{h:Hb}(c:¬wcnE m l h=0):wrE m l h=wcnE m l h/\wrV m l h=[]:=by
 unfold wrE wrV;rw[j7 c,j7 c];exact⟨rfl,rfl⟩
def zE9{m:Mn}{l:List Bt}{h:Hb}(c:wcnE m l h=0)(c2:l.length=0):wrE m l h=0/\wrV m l h=[]:=by
 have e:l=[]:=jR c2;unfold wrE wrV;rw[j6 c,j6 c,j6 e,j6 e];exact⟨rfl,rfl⟩
def zFa{m:Mn}{l:List Bt}{h:Hb}(c:wcnE m l h=0)(c2:¬l.length=0):wrE m l h=(if(srV m (durB l) (chV m l h) []).isSome then 0 else 18)/\wrV m l h=(srV m (durB l) (chV m l h) []).getD []:=by
 have e:¬l=[]:=λe=>c2 (by rw[e];rfl)
 unfold wrE wrV wrO;rw[j6 c,j6 c,j7 e,j7 e];exact⟨rfl,rfl⟩
def znX(m:Mn)(l:List Bt)(h:Hb):∀F∈chV m l h,F.length<=32/\∀f∈F,1<=f.length/\f.length<=2:=λF Z=>⟨by
 unfold chV at Z;obtain⟨b,-,rfl⟩:=jW.1 Z;exact zg0 m b h,zmX F Z⟩
def znY{m:Mn}{l:List Bt}{h:Hb}(c:wcnE m l h=0):l.length<=12:=by
 unfold wcnE at c;split at c
 ·split at c
  ·exact absurd c (by decide)
  ·omega
 ·exact absurd c ‹_›
attribute [local irreducible] wcE wcnE wcnV chV durB rdE rdV srV wrE wrV ckD rsL wisE wisB
def zjo(m:Mn)(l:List Bt)(r:List Sg)(hl:l.length<=1000000)(hr:r.length<=1000):Fn prog 11 [mnA m,btsA l,sgsA r] (.tup [.bool (wisB m l r),iv (wisE m l r)]):=by
 have xT:[]=rsL (r.take 0):=by unfold rsL;rfl
 refine kR func11 ntmps11 (λg w d=>?_);refine gc (zb8 m l (by omega)) ?_;refine gd ?_ ?_<;>intro V
 ·have U:=zEy (r:=r) V;obtain⟨hE,Z⟩:=U;refine gq ?_;refine yl ?_ ?_;all_goals(first|exact zE Z|exact zE hE)
 have h0:wcE m l=0:=by omega
 refine gc (zce m r hr) ?_;refine gd ?_ ?_<;>intro T
 ·have N:=zEz h0 T;obtain⟨hE,Z⟩:=N;refine gq ?_;refine yl ?_ ?_;all_goals(first|exact zE Z|exact zE hE)
 have J:=zEA h0 (show ckD m r=0 by omega);obtain⟨hE,Z⟩:=J;apply yk;apply ye;refine yj ?_;iterate 2 apply yh
 refine kT (yG zba 4 1 10 30 rfl rfl) ?_;apply yf;refine yC ?_;apply kP;refine zm (λk=>[(1,btsA l),(2,sgsA r),(3,.ptr 3 0 0 0),(10,.own 30),(26,sgsA r),(27,iv (r.length:Int)),(28,iv (k:Int))]) (λk=>[(3,.box (mnE m) 27),(30,.row zba (rsL (r.take k)) 4 1)]) r.length (λk hk=>?_);refine gd ?_ ?_<;>intro x4
 ·have H:=@getX _ r k (by omega);obtain⟨s,hs,x3⟩:=H;have x2:(rsL (r.take k)).length<=1000:=jT (zo6 _) (by rw[jO];omega);refine gd ?_ ?_<;>intro G
  ·have E:=zlK hs G;refine gq ?_;refine yD zba [decide (s.Kind=2)] ?_;refine gq ?_;refine yu (k+1) (hI:=yg)
  ·have E:=zlJ hs (by omega);refine gq ?_;refine yu (k+1) (hI:=yg)
 ·obtain rfl:k=r.length:=by omega
  have x1:rsL (r.take r.length)=rsL r:=by rw[jK]
  apply bA;apply yh;refine kT (st':=⟨[(1,btsA l),(2,sgsA r),(3,.ptr 3 0 0 0),(10,.own 30)],[(3,.box (mnE m) 27),(30,.row zba (rsL r) 4 1)]⟩) yg ?_;refine kT (st':=⟨[(1,btsA l),(2,sgsA r),(3,.ptr 3 0 0 0),(10,zaX (rsL r))],[(3,.box (mnE m) 27)]⟩) ((kL (k:=30) rfl).trans yd) ?_;refine gc (zak l (rsL r) (by omega)) ?_;refine yW [6,7,45,46,47,48,49,50,51,52] [0,1,3,3,3,19,63,127,255,511] mo ?_;iterate 2 refine yb ?_
  iterate 3 refine kZ ?_
  refine bK (zd3 l (by omega)) ?_;refine bK (zgx m r (durB l) hr) ?_;iterate 3 refine yb ?_
  refine yI ?_;refine gq ?_;refine yl ?_ ?_;all_goals(first|exact zE Z|exact zE hE)
def zcW(m:Mn)(D:List Tm)(n:Nat)(C:List (List (List Sg)))(run:List Sg)(hn:C.length=n)(N:∀F∈C,F.length<=32/\∀f∈F,1<=f.length/\f.length<=2)(hr:run.length+2*C.length<=1000):Fn prog 33 [mnA m,tmsA D,chsA C,sgsA run] (nlA sgE (srV m D C run)):=by
 induction n using Nat.strongRecOn generalizing C run
 rename_i n ih;refine kR func33 ntmps33 (λg w d=>?_) (hnm:=zyT _);refine gd ?_ ?_<;>intro J
 ·obtain rfl:C=[]:=jR (by omega);refine gc (zgx m run D (by omega)) ?_;refine gd ?_ ?_<;>intro U
  ·have Z:=zBY U;refine gq ?_;all_goals(rw[Z];first|done|rfl)
  have Z:=zBZ (m:=m) (run:=run) (D:=D) (by rcases U with e|e;exactλq=>e q.1;exactλq=>e q.2);refine gq ?_;all_goals(rw[Z];first|done|rfl)
 obtain⟨F,r,rfl⟩:∃F r,C=F::r:=by cases C with|nil=>exact absurd rfl J|cons F r=>exact⟨F,r,rfl⟩
 have w9:(F::r)[(0:Int).toNat]? =some F:=rfl;have H:=N F (by simp);apply yk;iterate 2 apply yh
 refine zAn 3 1000003 (λAd c E=>?_);apply yf;iterate 2 refine ya ?_
 refine yC ?_;apply kP;refine zW (λk=>[(1,tmsA D),(2,chsA (F::r)),(3,.val (.slice Ad run.length c)),(4,.ptr 4 0 0 0),(22,zeI F),(23,iv (F.length:Int)),(24,iv (k:Int))]) (λk=>[(4,.box (mnE m) 27),(1000003,.hold [.slice Ad run.length c] [sgsA run])]) (λk=>k<=F.length/\(F.take k).findSome? (λf=>srV m D r (run++f))=none) F.length (λk hk=>?_) (hJ:=by exact⟨by omega,by simp⟩);obtain⟨w2,V⟩:=hk;refine gd ?_ ?_<;>intro v9
 ·have xT:=@getX _ F k (by omega);obtain⟨f,hf,v8⟩:=xT;have x4:=H.2 f (j8 hf);have x3:=zlY (m:=m) (D:=D) (C:=r) (run:=run++f) (λG hG=>N G (wE _ hG)) (by rw[jC];omega);have x2:run.length+f.length<=4000000000:=by simp only[w8]at hr;omega
  refine gq ?_;refine yW [28,29,30,31,32,33,34,35,36,37,38,39] [0,0,0,4,0,0,32,0,128,496,0,2032,4095,8191] mo ?_;iterate 3 refine yb ?_
  first
   |refine ChM.step rfl rfl rfl (kK (zx rfl rfl rfl sl82 ty56 (by omega) (by omega))) rfl ?_
   |refine ChM.step rfl rfl rfl (kK (zY rfl rfl sl82 ty56 (λ_=>rfl) (by omega) (by omega))) rfl ?_
  iterate 2 refine yb ?_
  refine yb ?_ (hs:=by exact zkl rfl sl35);refine yb ?_;refine yb ?_ (hs:=by exact zkl rfl sl35);refine ChM.step rfl rfl rfl (kK (zxD rfl rfl rfl sl35 ty76 E)) rfl ?_;refine yb ?_;refine ChM.step rfl rfl rfl (zjV (k:=39) (kh:=1000003) rfl rfl rfl sl35 ti76 (by decide) (by decide) (λ_=>rfl) x4.1 x2) rfl ?_;refine yI ?_;refine bF (kL (k:=39) rfl) ?_;refine yR (ih r.length (by rw[←hn];simp) r (run++f) rfl (λG hG=>N G (wE _ hG)) (by simp only[jC,w8]at*;omega)) ?_;refine ya ?_;apply yE;refine ya ?_;refine zo (zyf Tryz.underlying35 rfl x3) rfl ?_;refine gd ?_ ?_<;>intro T
  ·have x1:=wY.1 T;obtain⟨x,hx⟩:=x1;have Z:srV m D (F::r) run=srV m D r (run++f):=by rw[hx];exact zr7 (by rw[zwN hf V,hx])
   refine gq ?_;all_goals(rw[Z];first|done|rfl)
  have x0:(F.take (k+1)).findSome? (λf=>srV m D r (run++f))=none:=by rw[zwN hf V];simpa using T
  refine gq ?_;refine yu (k+1) (hJ:=by exact⟨by omega,x0⟩) (hI:=yg)
 ·obtain rfl:k=F.length:=by omega
  have Z:=zuv V;refine gq ?_;all_goals(rw[Z];first|done|rfl)
def zds(m:Mn)(l:List Bt)(h:Hb)(hl:l.length<=4000000000):Fn prog 9 [mnA m,btsA l,hbA h] (.tup [sgsA (wrV m l h),iv (wrE m l h)]):=by
 have V:=zig m l h;have U:=znX m l h;refine kR func9 ntmps9 (λg w d=>?_);refine gc (zfJ m l h hl) ?_;refine gd ?_ ?_<;>intro N
 ·have J:=zB0 N;obtain⟨hE,Z⟩:=J;apply ye;refine yC ?_;refine kQ ?_;refine kM (yd (ts:=[(6,sgsA []),(7,iv (wcnE m l h))]) (hs:=[])) ?_;refine yl ?_ ?_;all_goals(first|exact zE Z|exact zE hE|(rw[Z,hn];rfl)|(rw[hE,hn];rfl))
 have h0:wcnE m l h=0:=by omega
 have x4:=znY h0;refine gd ?_ ?_<;>intro x3
 ·have H:=zE9 h0 (by omega);obtain⟨hE,Z⟩:=H;apply ye;refine yQ ?_;refine kQ ?_;refine kM (yd (ts:=[(6,sgsA []),(7,iv 0)]) (hs:=[])) ?_;refine yl ?_ ?_;all_goals(first|exact zE Z|exact zE hE|(rw[Z,hn];rfl)|(rw[hE,hn];rfl))
 have G:=zFa h0 (show¬l.length=0 by omega);obtain⟨hE,Z⟩:=G;have E:=zlY (m:=m) (D:=durB l) (run:=[]) U (by rw[V];simp only[wQ];omega);refine gq ?_;refine yW [10,24,25,26,27,28,29,30,31] [0,0,2,0,0,0,62,127,255] mo ?_;iterate 2 refine yb ?_
 refine yO (zd3 l hl) ?_;iterate 3 refine yb ?_
 refine yO (zd9 m l h (by omega)) ?_;refine ChM.step rfl rfl rfl (z7 rfl rfl rfl (.cons (kX _) (.cons (kX _) (.cons (kX _) (.cons (bB _) .nil)))) (zcW m (durB l) _ (chV m l h) [] rfl U (by rw[V];simp only[wQ];omega))) rfl ?_;refine yb ?_;refine yI ?_;apply kW;apply yh;apply ye;refine ya ?_;refine zo (zrC Tryz.underlying35 rfl E) rfl ?_;refine gd ?_ ?_<;>intro T
 ·have hn:srV m (durB l) (chV m l h) []=none:=by simpa using T
  apply ye;refine yQ ?_;refine kQ ?_;refine kM (yd (ts:=[(6,sgsA []),(7,iv 18)]) (hs:=[])) ?_;refine yl ?_ ?_;all_goals(first|exact zE Z|exact zE hE|(rw[Z,hn];rfl)|(rw[hE,hn];rfl))
 have xT:=wY.1 (show(srV m (durB l) (chV m l h) []).isSome=true by simpa using T);obtain⟨x,hx⟩:=xT;refine gq ?_;refine yl ?_ ?_;all_goals(first|(rw[Z,hx];rfl)|(rw[hE,hx];rfl))
end
section
def hbL(a b:Hb):Bool:=(!a.Color||b.Color)&&(!a.Dots||b.Dots)&&(!a.Alter||b.Alter)
def zpj{a b:Hb}:hbL a b=true↔(a.Color=true->b.Color=true)/\(a.Dots=true->b.Dots=true)/\(a.Alter=true->b.Alter=true):=by
 grind[hbL]
def zse{a b:Hb}(h:hbL a b=true):(a.Color=true->b.Color=true)/\(a.Dots=true->b.Dots=true)/\(a.Alter=true->b.Alter=true):=zpj.1 h
theorem zsf{s:Sp}{a b:Hb}(h:hbL a b=true)(hs:usQ s a=true):usQ s b=true:=by
 obtain⟨h1,Z,V⟩:=zse h
 grind[usQ]
theorem zmZ{x:Bt}{s:Sp}{a b:Hb}(h:hbL a b=true)(hs:slQ x a s=true):slQ x b s=true:=by
 grind[slQ,zsf]
def zsg{α:Type}{p q:Bool}{l:List α}(h:p=true->q=true):(if p=true then l else[]).Sublist (if q=true then l else[]):=by
 grind
def zm0{α:Type}{L:List α}{p q:α->Bool}(h:∀x,p x=true->q x=true)(Z:L.any p=true):L.any q=true:=by
 grind
def zpk{x:Bt}{a b:Hb}(h:hbL a b=true)(L:List Sp)(v:Int)(c:Bool):(rkC x a L v c).Sublist (rkC x b L v c):=by
 unfold rkC;refine List.Sublist.append (zsg (zm0 λs hs=>?_)) (zsg λZ=>?_)
 ·grind[zmZ]
 ·rw[jA]at*
  refine⟨zm0 (λs hs=>?_) Z.1,(zse h).2.1 Z.2⟩
  grind[zmZ]
def zpl{x:Bt}{a b:Hb}(h:hbL a b=true)(L:List Sp):∀n,(rkL x a L n).Sublist (rkL x b L n)
 |0=>List.Sublist.refl _
 |n+1=>(zpl h L n).append ((zpk h L _ _).append (zpk h L _ _))
def zuw{x:Bt}{a b:Hb}(h:hbL a b=true)(m:Mn):(frV m x a).Sublist (frV m x b):=(zpl h _ 8).map _
def zpm{a b:Hb}(h:hbL a b=true)(m:Mn):∀(l:List Bt),cnP m a l<=cnP m b l
 |[]=>jE _
 |x::l=>xN (zuw h m).length_le (zpm h m l)
def FmQ(r:Bool)(x:List Sg):Prop:=∃s:Sg,(s.Kind=1\/s.Kind=2/\s.Color=false)/\decide (s.Kind=2)=r/\(x=[s]\/x=[s,dtS])
def zyU(r:Bool)(f:Fo):FmQ r (foS r f):=by
 grind[foS,FmQ]
def zyV{m:Mn}{b:Bt}{h:Hb}{x:List Sg}(hx:x∈fmV m b h):FmQ b.Rest x:=by
 unfold fmV at hx;split at hx
 ·obtain⟨f,-,rfl⟩:=jW.1 hx;exact zyU _ _
 ·simp at hx
def zux(a b:List Sg):rsL (a++b)=rsL a++rsL b:=by simp[rsL]
def zyW{r:Bool}{x:List Sg}(h:FmQ r x):rsL x=[r]:=by
 obtain⟨s,h1,Z,V⟩:=h
 grind[rsL]
def cqQ(y:List Sg):Prop:=∀s∈y,s.Color=true->s.Kind=1
def zyX{a b:List Sg}(h1:cqQ a)(Z:cqQ b):cqQ (a++b):=λs hs=>by
 rcases jY.1 hs with h|h
 ·exact h1 s h
 ·exact Z s h
def zB1{r:Bool}{x:List Sg}(h:FmQ r x):cqQ x:=by
 obtain⟨s,h1,-,Z⟩:=h
 grind[cqQ]
def zsh(m:Mn)(h:Hb):∀(l:List Bt)(r y:List Sg),y∈wuL (fmL m l h) r->rsL y=rsL r++l.map (·.Rest)/\(cqQ r->cqQ y)
 |[],r,y,Z=>by
  have:y=r:=wR.1 Z;subst this;simp
 |b::l,r,y,Z=>by
  obtain⟨x,hx,Z⟩:=vZ.1 (show y∈(fmV m b h).flatMap λx=>wuL (fmL m l h) (r++x)from Z);obtain⟨h1,V⟩:=zsh m h l (r++x) y Z;have hf:=zyV hx;refine⟨?_,λhr=>V (zyX hr (zB1 hf))⟩;rw[h1,zux,zyW hf,uB];rfl
def zsi{m:Mn}{l:List Bt}{h:Hb}{y:List Sg}(Z:y∈wyL m l h):rsL y=l.map (·.Rest)/\cqQ y/\rdE m y=0/\(rdV m y).Durs=durB l:=by
 unfold wyL at Z;obtain⟨h1,V⟩:=wU.1 Z;obtain⟨U,T⟩:=zsh m h l [] y h1
 grind[reQ,rsL,cqQ]
def zB2{m:Mn}{y:List Sg}(h:rdE m y=0):ckD m y=0:=by
 apply jV;intro hn;unfold rdE at h;rw[j7 hn]at h;exact hn h
def zyY{m:Mn}{l:List Bt}{h:Hb}{y:List Sg}(V:wcE m l=0)(U:y∈wyL m l h):wisE m l y=0/\wisB m l y=true:=by
 obtain⟨h1,-,Z,T⟩:=zsi U;have e:wisE m l y=0:=by unfold wisE;rw[j6 V];exact zB2 Z
 refine⟨e,?_⟩;unfold wisB reQ;rw[j6 e,h1,jJ rfl,jJ Z,jJ T];rfl
def zsj(m:Mn)(D:List Tm):∀(F:List (List (List Sg)))(r:List Sg),srV m D F r=((wuL F r).filter λx=>reQ m x D).head?
 |[],r=>by
  grind[srV,wuL]
 |f::F,r=>by
  show f.findSome? (λx=>srV m D F (r++x))=((f.flatMap λx=>wuL F (r++x)).filter _).head?;rw[List.filter_flatMap,List.head?_flatMap];congr 1;funext x;exact zsj m D F (r++x)
theorem zyZ{m:Mn}{l:List Bt}(h:wcE m l=0){b:Bt}(Z:b∈l):wcE m [b]=0:=by
 grind[wcE,zgZ]
def zB3{m:Mn}{l:List Bt}(Z:wcE m l=0)(h:Hb):fmL m l h=chV m l h:=by
 grind[fmL,chV,List.map_congr_left,fmV,zyZ]
theorem zsk{m:Mn}{l:List Bt}(Z:wcE m l=0)(h:Hb):wrO m l h=(wyL m l h).head?:=by
 unfold wrO wyL;rw[zsj,zB3 Z]
end
end Go.Rse
namespace Go.Rse
open Go Go.RowKit Go.Proofs.Tryz
section
variable{P:Program}{C:Ctx}{st:St}{ty:TypeId}{x y:Operand}{xt yt:TypeId}{p q:Int}
end
end Go.Rse
namespace Go.Rse
open Go Go.Proofs Go.Proofs.Tryz
theorem zpn{m:Mn}(Z:reQ m [] []=true)(h:Hb):wyL m [] h=[[]]:=by
 show([[]]:List (List Sg)).filter (λx=>reQ m x (durB []))=[[]]
 grind[durB]
def zB4{m:Mn}{z:List Bt}{b:Hb}(Z:wcE m z=0)(hn:wcnE m z b=0)(V:reQ m [] []=true)(h:(wyL m z b).length=0):wrE m z b=18:=by
 grind[zpn,wrE,zsk]
def zy0{m:Mn}{z:List Bt}{b:Hb}{u:List Sg}(Z:wcE m z=0)(hn:wcnE m z b=0)(V:reQ m [] []=true)(h:(wyL m z b)[0]? =some u):wrE m z b=0/\wrV m z b=u:=by
 grind[wrE,wrV,zpn,zsk,List.head?_eq_getElem?]
end Go.Rse
