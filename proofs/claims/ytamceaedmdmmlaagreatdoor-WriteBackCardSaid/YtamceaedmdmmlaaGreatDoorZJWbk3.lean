/-
  Plain.
-/
import Derived.Test.YtamceaedmdmmlaaGreatDoorZJWbk1
import Derived.Test.YtamceaedmdmmlaaGreatDoorZJRun3
import Derived.Test.YtamceaedmdmmlaaGreatDoorZJRef23p
set_option linter.all false
set_option maxHeartbeats 8000000
namespace Go.Rse
open Go Go.Proofs Go.Proofs.Tryz
attribute [local irreducible] Pur yy yz Ex X Fn Imp LeV LeB FnO It yH FnW FnOW FnP FnD
section
def zwH{m:Mn}{t:Tm}{v:Int}:∀n,∀s∈alI m t v n,∃w:Nat,w<n/\t∈wdL m v w
 |0,s,h=>by simp[alI]at h
 |n+1,s,h=>by
  unfold alI at h;split at h
  ·rename_i hn;exact⟨n,by omega,hn.2⟩
  ·obtain⟨w,h1,Z⟩:=zwH n s h;exact⟨w,by omega,Z⟩
def zwI{m:Mn}{t:Tm}:∀n,∀s∈alO m t n,∃(v w:Nat),1<=v/\v<=n/\w<9/\t∈wdL m (v:Int) w
 |0,s,h=>by simp[alO]at h
 |n+1,s,h=>by
  unfold alO at h;rcases jY.1 h with h|h
  ·obtain⟨v,w,h1,Z,V,U⟩:=zwI n s h;exact⟨v,w,h1,by omega,V,U⟩
  ·obtain⟨w,h1,Z⟩:=zwH 9 s h;exact⟨1+n,w,by omega,by omega,h1,by push_cast;exact Z⟩
def fq8(m:Mn)(v:Int):Bool:=(List.range 9).all λw=>(wdL m v w).all λt=>decide ((frL m ⟨t,false⟩ hAll).length<=8)&&decide ((frL m ⟨t,true⟩ hAll).length<=8)
def zul:zdc fq8=true:=by kernel_rfl
def zEI{m:Mn}(T:ckM m=0)(b:Bt)(h:Hb):(frV m b h).length<=8:=by
 have N:hbL h hAll=true:=zpj.2 ⟨λ_=>rfl,λ_=>rfl,λ_=>rfl⟩;have h1:=zpm N m [b];simp only[cnP,Nat.mul_one]at h1;refine jT h1 ?_;have e:(frV m b hAll).length=(frL m b hAll).length:=by unfold frV;rw[jS]
 rw[e];rcases hl:frL m b hAll with _|⟨f,r⟩
 ·simp
 ·rw[←hl];have hf:f∈frL m b hAll:=by rw[hl];simp
  have V:=zwK.1 hf;obtain⟨s,hs,-⟩:=vZ.1 (show f∈(allE m b.Dur).flatMap (fkS b hAll)from V)
  have U:s∈alO m b.Dur 8:=by
   unfold allE at hs;split at hs
   ·exact hs
   ·cases hs
  obtain⟨v,w,v1,v8,w9,ht⟩:=zwI 8 s U;have Z:=zab zul T (v:=(v:Int)) (by omega) (by omega);unfold fq8 at Z;have Z:=jF.1 (jF.1 Z w (uR.2 w9)) b.Dur ht;rw[jA,w4,w4]at Z;obtain⟨t,rr⟩:=b;cases rr
  ·exact Z.1
  ·exact Z.2
def zBp{m:Mn}(Z:ckM m=0)(h:Hb):∀l:List Bt,cnP m h l<=8^l.length
 |[]=>jE _
 |b::r=>by
  show(frV m b h).length*cnP m h r<=8^(r.length+1);rw[kA,u9];exact xN (zBp Z h r) (zEI Z b h)
def zBq{A:Int}(h:0<=A):GT A ⟨0,1⟩:=⟨by decide+kernel,by decide,by dsimp only;omega⟩
def zBr{u:Tm}:∀(l:List Bt)(s:Tm)(A:Int),0<=A->A+122*(l.length:Int)<=100000->GT A s->(∀b∈l,GT 122 b.Dur)->bkE u s l=0
 |[],s,A,_,_,_,_=>rfl
 |b::r,s,A,h0,Z,hs,hl=>by
  rw[w8]at Z;push_cast at Z;obtain⟨e,V⟩:=zyD hs (hl b (by simp)) h0 (by decide) (by omega) (by decide);unfold bkE;rw[j6 e];refine zBr r _ (A+122) (by omega) (by omega) ?_ λc U=>hl c (wE _ U)
  split
  ·exact zBq (by omega)
  ·exact V
def zyG{m:Mn}{l r:List Bt}(h:wcE m l=0)(hs:∀b∈r,b∈l):wcE m r=0:=by
 have Z:=zsb h;unfold wcE at h⊢;rw[j6 Z]at h⊢;exact zgZ.2 λb V=>zgZ.1 h b (hs b V)
def zr1{m:Mn}{h:Hb}:∀(L:List (List Bt))(S R:List Sg)(B:List Bt),(∀b∈L,wcnE m b h=0)->(ptK m h L S R B).1=0\/(ptK m h L S R B).1=18
 |[],S,R,B,_=>.inl rfl
 |b::r,S,R,B,Z=>by
  have hr:∀c∈r,wcnE m c h=0:=λc V=>Z c (wE _ V)
  unfold ptK;rw[j6 (Z b (by simp))];split
  ·exact zr1 r _ _ _ hr
  ·split
   ·exact zr1 r _ _ _ hr
   ·exact .inr rfl
def znV{m:Mn}{h:Hb}:∀(L:List (List Bt))(S R:List Sg)(B:List Bt)(S':List Sg),ptK m h L S R B=(0,S')->S'.length<=S.length+L.length+2*L.flatten.length
 |[],S,R,B,S',h0=>by
  unfold ptK at h0;injection h0 with _ h0;subst h0;simp
 |b::r,S,R,B,S',h0=>by
  unfold ptK at h0;split at h0
  ·split at h0
   ·rename_i x hx;have h1:=zhe hx;have Z:=znV r _ _ _ _ h0;rw[jC,u7]at Z;rw[uQ,jC,w8];omega
   ·split at h0
    ·rename_i x hx;have h1:=zhe hx;have Z:=znV r _ _ _ _ h0;rw[jC,jC]at Z;rw[uQ,jC,w8];simp only[wQ,wW]at h1 Z;omega
    ·cases h0
  ·rename_i V;injection h0 with h0 _;exact absurd h0 V
def zBs{L:List (List Bt)}{l b:List Bt}(h1:∀c∈L,1<=c.length)(hf:L.flatten=l)(U:l.length<=5)(V:b∈L):b=l\/b.length<=4:=by
 obtain⟨i,hi⟩:=jQ.1 V;obtain⟨A,C,rfl⟩:=List.append_of_mem V;rw[List.flatten_append,uQ]at hf;have Z:=j9 List.length hf;rw[jC,jC]at Z;by_cases c:A.flatten=[]/\C.flatten=[]
 ·left;rw[c.1,c.2]at hf;simpa using hf
 ·right
  have:1<=A.flatten.length\/1<=C.flatten.length:=by
   by_cases c1:A.flatten=[]
   ·exact .inr (uH.2 λe=>c ⟨c1,e⟩)
   ·exact .inl (uH.2 c1)
  omega
def zEJ:nmQ (bsB (ByteArray.mk #[97]))=true:=by decide+kernel
section
variable{m:Mn}{l:List Bt}{h:Hb}
def zyH(hq:reQ m [] []=true)(V:wcnE m l h=0)(h5:l.length<=5)(hg:∀b∈l,GT 122 b.Dur):
 paE ⟨#[97]⟩ m l h=18\/paE ⟨#[97]⟩ m l h=0/\PtK (paN ⟨#[97]⟩ m l h) (paV ⟨#[97]⟩ m l h)/\NoR (paV ⟨#[97]⟩ m l h)/\ScOk (paV ⟨#[97]⟩ m l h)/\rsK (rusV (paV ⟨#[97]⟩ m l h)) 0=(0,0)/\(rpV (paV ⟨#[97]⟩ m l h)).Durs=durB l:=by
 have J:=zwQ V;have hM:=zsb J
 have U:blE m l=0:=by
  unfold blE;rw[j6 J];exact zBr l _ 0 (by decide) (by omega) (zBq (by decide)) hg
 obtain⟨b1,b2⟩:=ziz U;have T:∀b∈blV m l,∀c∈b,c∈l:=λb H c V=>by rw[←b2];exact List.mem_flatten.2 ⟨b,H,V⟩
 have xT:cnP m h l<=4096:=jV λhn=>by
  rw[(zrM (h:=h) J (by have:=znY V;omega) (by omega)).1]at V;cases V
 have G:∀b∈blV m l,wcnE m b h=0:=λb H=>by
  have E:=zyG J (T b H);rcases zBs b1 b2 h5 H with rfl|h4
  ·exact V
  ·refine(zo5 E (by omega) ?_).1;have h8:=zBp hM h b;have:=vA (n:=8) (by decide) h4;omega
 have c:=zEJ;rcases N:ptK m h (blV m l) [msS m] [] []with⟨e,S⟩;have he:=zr1 (m:=m) (h:=h) (blV m l) [msS m] [] [] G;rw[N]at he;rcases he with he|he
 ·have he:e=0:=he;subst he;obtain⟨Q,e1,e2,e3⟩:=zyz hq (blV m l) [] [] [] S b1 (λR q=>nomatch q) (.inl ⟨rfl,rfl,rfl⟩) N;rw[vE,b2]at e3
  have Z:S.length<=400:=by
   have hS:=znV (blV m l) [msS m] [] [] S N;have:=zk0 b1;rw[b2]at this hS;simp only[wW]at hS;omega
  obtain⟨hE,hN,hV⟩:=zz7 c U (by omega) N Z;refine .inr ⟨hE,?_⟩;rw[hN,hV];obtain⟨r1,r2,r3⟩:=zBe hq e2;rw[←e1]at r1 r2 r3;have ho:=zBg hM e2;rw[←e1]at ho;refine⟨⟨by decide,c,Z,λx hx=>(ho x hx).1⟩,λx hx=>(ho x hx).2,r1,r2,?_⟩;rw[r3,e3];simp[flD]
 ·left;have he:e=18:=he;subst he;exact zxg c U (by omega) N (by decide)
end
end
section
def liQ(m:Mn)(l:List Bt)(h:Hb):Bool:=(blV m l).all λb=>decide (wcnV m b h<=64)
def zBt{α:Type}{L:List α}{p:α->Bool}{k:Nat}{b:α}(Z:L[k]? =some b)(c:p b=false):L.all p=false:=by
 rw[List.all_eq_false];exact⟨b,j8 Z,by simp[c]⟩
def zEK{α:Type}{L:List α}{p:α->Bool}{k:Nat}{b:α}(Z:L[k]? =some b)(h:(L.take k).all p=true)(c:p b=true):(L.take (k+1)).all p=true:=by
 rw[jG,Z,List.all_append,h];simp[c]
def zBu{m:Mn}{l:List Bt}{b:List Bt}{k:Nat}(Z:(blV m l)[k]? =some b):b.length<=l.length:=by
 by_cases e:blE m l=0
 ·have V:=zqs (ziz e).2 (k+1);rw[(zhU Z).2.2,jC]at V;omega
 ·unfold blV at Z;rw[j7 e]at Z;simp at Z
def zBv(m:Mn)(l:List Bt):(blV m l).length<=l.length:=by
 by_cases e:blE m l=0
 ·have Z:=zk0 (ziz e).1;rw[(ziz e).2]at Z;exact Z
 ·unfold blV;rw[j7 e];simp
attribute [local irreducible] wcE wcnE wcnV blE blV ptS ptK paE paN paV nmQ bsB srV chV durB liQ
def zfw(m:Mn)(l:List Bt)(h:Hb)(hl:l.length<=1000000):Fn prog 8 [mnA m,btsA l,hbA h] (.bool (liQ m l h)):=by
 have V:=zey m l hl;have T:liQ m l h=(blV m l).all (λb=>decide (wcnV m b h<=64)):=by unfold liQ;rfl
 have hB:=λ(k:Nat)(b:List Bt)(U:(blV m l)[k]? =some b)=>zBu U
 have N:=zBv m l;have J:=zhG (blV m l);obtain⟨L,hL⟩:=J;rw[hL]at V T hB N;refine kR func8 ntmps8 (λg w d=>?_);refine gq ?_;refine yR V ?_;iterate 2 refine ya ?_
 refine yC ?_;apply yh;apply ye;refine yj ?_;apply kP;refine zW (λk=>[(3,.ptr 3 0 0 0),(5,.ptr 5 0 0 0),(7,blsA L),(9,iv (k:Int))]) (λk=>[(3,.box (mnE m) 27),(5,.box (hbE h) 24)]) (λk=>k<=L.length/\(L.take k).all (λb=>decide (wcnV m b h<=64))=true) L.length (λk hk=>?_) (hJ:=by exact⟨wK _,by simp⟩);obtain⟨xT,Z⟩:=hk;refine gd ?_ ?_<;>intro x4
 ·have H:=@getX _ L k (by omega);obtain⟨b,U,x3⟩:=H;have x2:=hB k b U;refine gq ?_;refine yW [10,11,24,25,26,27,28,29,30,31,32,33] [0,0,0,6,14,0,63,127,255,255,511,2047] mo ?_;iterate 6 refine yb ?_
  refine yO (zcq m b h (by omega)) ?_;iterate 5 refine yb ?_
  refine yI ?_;refine gd ?_ ?_<;>intro x1
  ·have G:liQ m l h=false:=by rw[T];exact zBt U (by simp;omega)
   refine gq ?_;all_goals rw[G]
  have E:=zEK (p:=(λb=>decide (wcnV m b h<=64))) U Z (by simp;omega);apply yk;refine kT (st':=⟨[(3,.ptr 3 0 0 0),(5,.ptr 5 0 0 0),(7,blsA L),(9,iv (k:Int))],[(3,.box (mnE m) 27),(5,.box (hbE h) 24)]⟩) yg ?_;refine gq ?_;refine yu (k+1) (hJ:=by exact⟨by omega,E⟩) (hI:=yg)
 ·obtain rfl:k=L.length:=by omega
  have G:liQ m l h=true:=by rw[T];rw[jK]at Z;exact Z
  refine gq ?_;all_goals rw[G]
end
section
def zEL{m:Mn}{l:List Bt}{h:Hb}(T:reQ m [] []=true)(Z:wcnE m l h=0):(wrE m l h=0/\rdE m (wrV m l h)=0/\(rdV m (wrV m l h)).Durs=durB l/\wisE m l (wrV m l h)=0/\wisB m l (wrV m l h)=true)\/wrE m l h=18:=by
 have V:=zwQ Z;by_cases e:(wyL m l h).length=0
 ·exact .inr (zB4 V Z T e)
 ·obtain⟨u,U⟩:∃u,(wyL m l h)[0]? =some u:=⟨_,lgg (by omega)⟩;have a1:=zy0 V Z T U;have b1:=zsi (j8 U);have b2:=zyY V (j8 U);rw[a1.2];exact .inl ⟨a1.1,b1.2.2.1,b1.2.2.2,b2.1,b2.2⟩
def zBw{m:Mn}{nums:List Int}{q:Nat}:∀b∈maV m nums q,GT 122 b.Dur:=λb Z=>by
 unfold maV at Z;split at Z
 ·rename_i h0;have Z:=List.mem_of_mem_take Z;unfold bsV at Z;rw[j6 h0]at Z;unfold zbV at Z;obtain⟨i,hi⟩:=jQ.1 Z;rw[List.getElem?_zipWith]at hi
  have:b.Dur∈(rdV m (roL m nums 12)).Durs:=by
   cases h1:(rdV m (roL m nums 12)).Durs[i]? with
   |none=>rw[h1]at hi;simp at hi
   |some t=>
    cases V:(rsL (roL m nums 12))[i]? with
    |none=>rw[h1,V]at hi;simp at hi
    |some r=>rw[h1,V]at hi;simp at hi;subst hi;exact j8 h1
  exact zBo (ztp (zqM m nums 12 nums.length).1) h0 _ this
 ·cases Z
attribute [local irreducible] wcnE wcnV wrE wrV rdE rdV bsV zbV rsL maV roL durB mMk paE paN paV wisE wisB rpV rsK rusV liQ
def C_tactuslaw23_WriteBack(n:Int)(nums:List Int)(h:Hb)(hn:-9223372036854775808<=n/\n<=9223372036854775807)(hr:∀x,x∈nums->-9223372036854775808<=x/\x<=9223372036854775807)(J:nums.length<=maxLen):Fn prog 3 [iv n,yc nums,hbA h] (.bool true):=by
 have hm:=zhi n hn;have H:=zxB n;generalize mMk n=m at hm H;have G:=zt3 m nums 5;have E:=zBw (m:=m) (nums:=nums) (q:=5);have xT:=zga m nums 5 (by decide) hr J;generalize maV m nums 5=l at*
 have v4:=zur m l h;have x4:=zds m l h (by omega);have x3:=zhD m (wrV m l h) (by omega);have x2:=zjo m l (wrV m l h) (by omega) (by omega);have x1:=zly ⟨#[97]⟩ m l h (by decide) (by omega);refine kR func3 ntmps3 (λg w d=>?_);refine gc zdr ?_;refine gc hm ?_;refine gd ?_ ?_<;>intro v3
 ·refine gq ?_;all_goals rfl
 refine gc xT ?_;refine yR (zcq m l h (by omega)) ?_;iterate 2 refine ya ?_
 refine yC ?_;apply yh;apply ye;iterate 2 refine ya ?_
 refine kU 2 ?_;refine gq ?_;refine bJ (zfw m l h (by omega)) ?_;refine kS ?_;refine gf ?_ ?_<;>intro v2
 ·refine gq ?_;all_goals rfl
 have U:wcnE m l h=0:=by omega
 have T:=zEL (zsc H) U;refine gq ?_;refine yR x4 ?_;iterate 2 refine ya ?_
 refine yC ?_;refine zF ⟨[(5,.ptr 5 0 0 0),(7,.bool true),(8,.ptr 8 0 0 0),(9,btsA l)],[(5,.box (hbE h) 24),(8,.box (mnE m) 27)]⟩ (λZ=>?_) ?_
 ·refine gd ?_ ?_<;>intro V
  ·have x0:rdE m (wrV m l h)=0/\(rdV m (wrV m l h)).Durs=durB l/\wisE m l (wrV m l h)=0/\wisB m l (wrV m l h)=true:=T.elim (λq=>q.2) (λq=>by rw[q]at V;cases V);obtain⟨q2,q3,q4,q5⟩:=x0;refine gc x3 ?_;refine yR x2 ?_;(iterate 5 refine ya ?_);apply yE;(iterate 2 refine ya ?_);refine kU 2 ?_;refine gq ?_;refine bJ (zbW l (by omega)) ?_;refine bJ (zbT (rdV m (wrV m l h)).Durs (durB l) (by rw[q3,zeJ];omega)) ?_;refine kS ?_;(iterate 2 refine yo ?_);(iterate 2 refine kS ?_);(iterate 2 refine yo ?_);(iterate 2 refine kS ?_);refine gf ?_ ?_<;>intro w9
   ·exact absurd w9 (by simp[q2,q3,q4,q5])
   apply yk;exact kT yg Z
  ·have w2:wrE m l h=18:=T.elim (λq=>absurd q.1 V) id;refine gd ?_ ?_<;>intro v9
   ·exact absurd w2 v9
   apply yk;exact kT yg Z
 refine gc x1 ?_;refine gd ?_ ?_<;>intro v8
 ·refine gq ?_;all_goals rfl
 have v5:=(zyH (zsc H) U G E).resolve_left v8;obtain⟨p0,p1,p2,p3,p4,p5⟩:=v5;have N:=zlP _ _ p1 p2 p3;rw[p4]at N;refine gc N ?_;refine yW [6,109,110,111,112,113,114,115,116,117,118,119,120,121,122,123,124,125] [0,1,3,7,15,31,63,127,255,511,1023,2047,4095,2047,10239,32767,65535,131071] mo ?_;iterate 2 refine yb ?_
 iterate 2 refine kZ ?_
 iterate 2 refine yb ?_
 iterate 3 refine kZ ?_
 iterate 2 refine yb ?_
 iterate 3 refine kZ ?_
 refine bK (zbW l (by omega)) ?_;refine bK (zbT (rpV (paV ⟨#[97]⟩ m l h)).Durs (durB l) (by rw[p5,zeJ];omega)) ?_;iterate 2 refine yb ?_
 refine yI ?_;refine gq ?_;all_goals(simp[p0,p5])
end
end Go.Rse
