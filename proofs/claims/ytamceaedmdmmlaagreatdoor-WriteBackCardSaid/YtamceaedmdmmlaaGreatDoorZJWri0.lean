/-
  Plain.
-/
import Derived.Test.YtamceaedmdmmlaaGreatDoorZJSlv1
set_option linter.all false
set_option maxHeartbeats 2000000
namespace Go.Rse
open Go Go.Proofs Go.Proofs.Tryz
section
structure Bt where
 Dur:Tm
 Rest:Bool
 deriving DecidableEq
instance:Inhabited Bt:=⟨⟨⟨0,0⟩,false⟩⟩
def btE:Bt->List AV:=λb=>[iv b.Dur.N,iv b.Dur.D,.bool b.Rest]
abbrev btA(b:Bt):AV:=.agg (btE b)
abbrev btsA(l:List Bt):AV:=.sl btE l
def zum(a b:Bt):eqL (btE a) (btE b)=some (decide (a=b)):=by
 obtain⟨⟨a1,a2⟩,a3⟩:=a;obtain⟨⟨b1,b2⟩,b3⟩:=b;refine(zf rfl (zf rfl (zf rfl rfl))).trans ?_;simp[xJ,xR]
structure Hb where
 Color:Bool
 Dots:Bool
 Alter:Bool
 deriving DecidableEq
def hbE:Hb->List AV:=λh=>[.bool h.Color,.bool h.Dots,.bool h.Alter]
abbrev hbA(h:Hb):AV:=.agg (hbE h)
def sgsE:List Sg->List AV:=λl=>[sgsA l]
abbrev zeI(L:List (List Sg)):AV:=.sl sgsE L
def zpc:List (List Sg)->List AV:=λl=>[zeI l]
abbrev chsA(L:List (List (List Sg))):AV:=.sl zpc L
structure Fo where
 v:Int
 c:Bool
 d:Bool
 deriving DecidableEq
instance:Inhabited Fo:=⟨⟨0,false,false⟩⟩
def foE:Fo->List AV:=λf=>[iv f.v,.bool f.c,.bool f.d]
abbrev foA(f:Fo):AV:=.agg (foE f)
def zun(a b:Fo):eqL (foE a) (foE b)=some (decide (a=b)):=by
 cases a;cases b;refine(zf rfl (zf rfl (zf rfl rfl))).trans ?_;simp[xR]
def b2i(b:Bool):Int:=if b then 1 else 0
def foN(f:Fo):Int:=4*f.v+2*b2i f.c+b2i f.d
def zbf(b:Bool):0<=b2i b/\b2i b<=1:=by cases b<;>decide
theorem zuo{a b:Bool}(h:b2i a=b2i b):a=b:=by all_goals grind[b2i]
theorem zpd{f g:Fo}(h:foN f=foN g):f=g:=by
 have h1:=zbf f.c;have Z:=zbf f.d;have V:=zbf g.c;have U:=zbf g.d;unfold foN at h;have e1:f.v=g.v:=by omega
 have e2:b2i f.c=b2i g.c:=by omega
 have e3:b2i f.d=b2i g.d:=by omega
 cases f;cases g
 grind[zuo]
def btC(b:Bt):Int:=if ckT b.Dur=0 then(if b.Dur.N=0 then 2 else 0)else ckT b.Dur
def btF:List Bt->Int
 |[]=>0
 |b::r=>if btC b=0 then btF r else btC b
def wcE(m:Mn)(l:List Bt):Int:=if ckM m=0 then btF l else ckM m
theorem zgZ:∀{l:List Bt},btF l=0↔∀b∈l,btC b=0
 |[]=>by simp[btF]
 |b::r=>by
  unfold btF;split
  ·rename_i h;rw[zgZ (l:=r)];simp[h]
  simp_all
def zjk{l:List Bt}{i:Nat}{b:Bt}(hi:l[i]? =some b)(h:btF (l.take i)=0):btF (l.take (i+1))=btC b:=by
 have key:∀(l r:List Bt),btF l=0->btF (l++r)=btF r:=by
  intro l r
  induction l with
  |nil=>intro _;rfl
  |cons x l ih=>
   intro hx;unfold btF at hx;split at hx
   ·rename_i h0;show(if btC x=0 then btF (l++r)else btC x)=_;rw[j6 h0];exact ih hx
   ·exact absurd hx ‹_›
 grind[List.take_add_one,btF]
theorem zjl{l:List Bt}{i:Nat}(h:¬btF (l.take i)=0):btF l=btF (l.take i):=by
 have key:∀(l r:List Bt),¬btF l=0->btF (l++r)=btF l:=by
  intro l r
  induction l with
  |nil=>intro h;exact absurd rfl h
  |cons x l ih=>
   intro hx;unfold btF at hx;split at hx
   ·rename_i h0;show(if btC x=0 then btF (l++r)else btC x)=(if btC x=0 then btF l else btC x);rw[j6 h0,j6 h0];exact ih hx
   ·rename_i h0;show(if btC x=0 then btF (l++r)else btC x)=(if btC x=0 then btF l else btC x);rw[j7 h0,j7 h0]
 grind[List.take_append_drop]
def usQ(s:Sp)(h:Hb):Bool:=if s.Way=5\/s.Way=7 then h.Color else if s.Way=6 then h.Color&&h.Dots else if s.Way=2 then h.Dots else if s.Way=4 then h.Alter else true
def slQ(b:Bt)(h:Hb)(s:Sp):Bool:=decide (s.Rest=b.Rest)&&usQ s h
def fkS(b:Bt)(h:Hb)(s:Sp):List Fo:=if slQ b h s then(if s.Dot then[]else[⟨s.Value,s.Color,false⟩])++(if h.Dots then[⟨s.Value,s.Color,true⟩]else[])else[]
def fkL(b:Bt)(h:Hb)(L:List Sp):List Fo:=L.flatMap (fkS b h)
def foS(r:Bool)(f:Fo):List Sg:=
 let s:Sg:=if r then⟨2,f.v,0,0,false,0,false,false,⟨0,0,0,0⟩,false,0,0,0,0⟩else⟨1,f.v,4,0,f.c,0,false,false,⟨0,0,0,0⟩,false,0,0,0,0⟩
 if f.d then[s,⟨3,0,0,0,false,0,false,false,⟨0,0,0,0⟩,false,0,0,0,0⟩]else[s]
def rkC(b:Bt)(h:Hb)(L:List Sp)(v:Int)(c:Bool):List Fo:=
 (if L.any (λs=>slQ b h s&&decide (s.Value=v)&&decide (s.Color=c)&&!s.Dot)then[⟨v,c,false⟩]else[])++
 (if L.any (λs=>slQ b h s&&decide (s.Value=v)&&decide (s.Color=c))&&h.Dots then[⟨v,c,true⟩]else[])
def rkV(b:Bt)(h:Hb)(L:List Sp)(v:Int):List Fo:=rkC b h L v false++rkC b h L v true
def rkL(b:Bt)(h:Hb)(L:List Sp):Nat->List Fo
 |0=>[]
 |n+1=>rkL b h L n++rkV b h L (1+(n:Int))
theorem zpe{b:Bt}{h:Hb}{L:List Sp}{v:Int}{c:Bool}{f:Fo}:f∈rkC b h L v c↔f.v=v/\f.c=c/\f∈fkL b h L:=by
 unfold rkC fkL
 grind[fkS]
def zpf{b:Bt}{h:Hb}{L:List Sp}{v:Int}{f:Fo}:f∈rkV b h L v↔f.v=v/\f∈fkL b h L:=by
 grind[rkV,zpe]
def zij{b:Bt}{h:Hb}{L:List Sp}{f:Fo}:∀n,f∈rkL b h L n↔(1<=f.v/\f.v<=(n:Int))/\f∈fkL b h L
 |0=>by
  grind[rkL]
 |n+1=>by
  unfold rkL;rw[jY,zij n,zpf]
  grind
def foL(f g:Fo):Prop:=foN f<foN g
theorem zyI(b:Bt)(h:Hb)(L:List Sp)(v:Int)(c:Bool):(rkC b h L v c).Pairwise foL:=by
 unfold rkC;rw[vM];refine⟨by split<;>simp,by split<;>simp,λx hx y Z=>?_⟩
 grind[foL,foN,b2i]
def zyJ(b:Bt)(h:Hb)(L:List Sp)(v:Int):(rkV b h L v).Pairwise foL:=by
 grind[rkV,zyI,zpe,foL,foN,b2i]
theorem zr2(b:Bt)(h:Hb)(L:List Sp):∀n,(rkL b h L n).Pairwise foL
 |0=>by simp[rkL]
 |n+1=>by
  unfold rkL;rw[vM];refine⟨zr2 b h L n,zyJ b h L _,λx hx y Z=>?_⟩;have hx:=((zij n).1 hx).1;have Z:=(zpf.1 Z).1;have h1:=zbf x.c;have V:=zbf y.c;have U:=zbf x.d;have T:=zbf y.d;unfold foL foN;omega
def frL(m:Mn)(b:Bt)(h:Hb):List Fo:=rkL b h (allE m b.Dur) 8
def frV(m:Mn)(b:Bt)(h:Hb):List (List Sg):=(frL m b h).map (foS b.Rest)
def zr3{m:Mn}{t:Tm}{v:Int}:∀n,∀s∈alI m t v n,∃w:Nat,1<=w/\w<n/\s=spOf v (w:Int)
 |0,s,h=>by simp[alI]at h
 |n+1,s,h=>by
  unfold alI at h;split at h
  ·rename_i hn;rcases jY.1 h with h|h
   ·obtain⟨w,h1,V,Z⟩:=zr3 n s h;exact⟨w,h1,by omega,Z⟩
   grind
  ·obtain⟨w,h1,V,Z⟩:=zr3 n s h;grind
theorem zwJ{m:Mn}{t:Tm}:∀n,∀s∈alO m t n,∃v w:Nat,1<=v/\v<=n/\1<=w/\w<9/\s=spOf (v:Int) (w:Int)
 |0,s,h=>by simp[alO]at h
 |n+1,s,h=>by
  unfold alO at h;rcases jY.1 h with h|h
  ·obtain⟨v,w,h1,Z,V⟩:=zwJ n s h;grind
  ·obtain⟨w,h1,Z,V⟩:=zr3 9 s h;exact⟨1+n,w,by omega,by omega,h1,Z,by rw[V];congr 1⟩
def zr4{m:Mn}{t:Tm}{s:Sp}(h:s∈allE m t):∃v w:Nat,1<=v/\v<=8/\1<=w/\w<9/\s=spOf (v:Int) (w:Int):=by
 grind[allE,zwJ]
theorem zwK{m:Mn}{b:Bt}{h:Hb}{f:Fo}:f∈frL m b h↔f∈fkL b h (allE m b.Dur):=by
 unfold frL;rw[zij];refine⟨λh=>h.2,λhf=>⟨?_,hf⟩⟩;unfold fkL at hf;obtain⟨s,hs,hf⟩:=vZ.1 hf;obtain⟨v,w,h1,Z,-,-,rfl⟩:=zr4 hs;unfold fkS at hf
 have:f.v=(v:Int):=by
  split at hf
  ·rcases jY.1 hf with hf|hf
   ·split at hf
    ·simp at hf
    ·rw[wR]at hf;rw[hf];rfl
   ·split at hf
    ·rw[wR]at hf;rw[hf];rfl
    ·simp at hf
  ·simp at hf
 all_goals omega
def zqi{l:List Fo}{m:Mn}{b:Bt}{h:Hb}(Z:l.Pairwise foL)(hm:∀f,f∈l↔f∈fkL b h (allE m b.Dur)):l=frL m b h:=by
 grind[foL,List.Pairwise.imp,frL,zr2,List.Perm.eq_of_pairwise,List.perm_ext_iff_of_nodup,zwK]
def zpg(m:Mn)(b:Bt)(h:Hb):(frL m b h).length<=32:=by
 have key:∀n,(rkL b h (allE m b.Dur) n).length<=4*n:=by
  intro n
  induction n with
  |zero=>simp[rkL]
  |succ n ih=>
   have Z:∀c,(rkC b h (allE m b.Dur) (1+(n:Int)) c).length<=2:=λc=>by
    unfold rkC;rw[jC];split<;>split<;>simp
   grind[rkL,rkV]
 exact key 8
def zg0(m:Mn)(b:Bt)(h:Hb):(frV m b h).length<=32:=by
 simp[frV,zpg]
def urQ(b:Bt)(h:Hb)(s:Sp):Bool:=decide (s.Rest=b.Rest)&&(!s.Color||h.Color)&&(!s.Dot||h.Dots)&&(!decide (s.Way=4)||h.Alter)
theorem zwL{m:Mn}{t:Tm}{s:Sp}(hs:s∈allE m t)(b:Bt)(h:Hb):urQ b h s=slQ b h s:=by
 obtain⟨v,w,-,-,h1,V,rfl⟩:=zr4 hs;have Z:w=1\/w=2\/w=3\/w=4\/w=5\/w=6\/w=7\/w=8:=by omega
 obtain⟨c,d,a⟩:=h;unfold urQ slQ usQ;rcases Z with rfl|rfl|rfl|rfl|rfl|rfl|rfl|rfl<;>(rw[xJ,xJ];refine j9 (λz=>_&&z) ?_)<;>cases c<;>cases d<;>cases a<;>rfl
end
section
theorem zr5{m:Mn}{l:List Bt}(h:¬ckM m=0):wcE m l=ckM m:=by unfold wcE;rw[j7 h]
def zEM{m:Mn}{l:List Bt}{k:Nat}{b:Bt}(h0:ckM m=0)(Z:l[k]? =some b)(V:btF (l.take k)=0)(h:¬ckT b.Dur=0):wcE m l=ckT b.Dur:=by
 have e:=zjk Z V;have e2:btC b=ckT b.Dur:=by unfold btC;rw[j7 h]
 unfold wcE;rw[j6 h0,zjl (i:=k+1) (by rw[e,e2];exact h),e,e2]
def zEN{m:Mn}{l:List Bt}{k:Nat}{b:Bt}(h0:ckM m=0)(Z:l[k]? =some b)(V:btF (l.take k)=0)(h:ckT b.Dur=0)(U:b.Dur.N=0):wcE m l=2:=by
 have e:=zjk Z V;have e2:btC b=2:=by unfold btC;rw[j6 h,j6 U]
 unfold wcE;rw[j6 h0,zjl (i:=k+1) (by rw[e,e2];decide),e,e2]
def zEO{l:List Bt}{k:Nat}{b:Bt}(Z:l[k]? =some b)(V:btF (l.take k)=0)(h:ckT b.Dur=0)(U:¬b.Dur.N=0):btF (l.take (k+1))=0:=by
 rw[zjk Z V];unfold btC;rw[j6 h,j7 U]
def zBx{m:Mn}{l:List Bt}(h0:ckM m=0)(h:btF (l.take l.length)=0):wcE m l=0:=by
 rw[jK]at h;unfold wcE;rw[j6 h0,h]
def durB(l:List Bt):List Tm:=l.map (·.Dur)
def znW{l:List Bt}{k:Nat}{b:Bt}(h:l[k]? =some b):durB (l.take k)++[b.Dur]=durB (l.take (k+1)):=by
 unfold durB;rw[jG,h];simp
def zeJ(l:List Bt):(durB l).length=l.length:=by unfold durB;simp
def cmpI(a b:Int):Int:=if a<b then-1 else if b<a then 1 else 0
def orV:List Int->Int
 |[]=>0
 |x::r=>if x=0 then orV r else x
def zBy{l:List Int}{k:Nat}{x:Int}(h:l[k]? =some x):orV (l.drop k)=if x=0 then orV (l.drop (k+1))else x:=by
 have h1:=j5.1 h;rw[jL h1.1,h1.2];rfl
def foC(f g:Fo):Int:=orV [cmpI f.v g.v,cmpI (b2i f.c) (b2i g.c),cmpI (b2i f.d) (b2i g.d)]
theorem zaS(f g:Fo):(foC f g<0↔foN f<foN g)/\(foC f g=0↔foN f=foN g):=by
 have h1:=zbf f.c;have Z:=zbf g.c;have V:=zbf f.d;have U:=zbf g.d;unfold foC foN;generalize b2i f.c=a at*
 generalize b2i g.c=b at*
 generalize b2i f.d=c at*
 generalize b2i g.d=d at*
 generalize f.v=x;generalize g.v=y;simp only[orV,cmpI];constructor<;>(repeat' split)<;>omega
attribute [local irreducible] Pur yy yz Ex X Fn Imp LeV LeB FnO It yH
attribute [local irreducible] wcE btF ckT ckM
def zb8(m:Mn)(l:List Bt)(hl:l.length<=4000000000):Fn prog 37 [mnA m,btsA l] (iv (wcE m l)):=by
 refine kR func37 ntmps37 (λg w d=>?_);refine gc (zaw ..) ?_;refine gd ?_ ?_<;>intro T
 ·have V:=zr5 (l:=l) T;refine gq ?_;all_goals rw[V]
 have h0:ckM m=0:=by omega
 apply yk;apply yh;apply ye;refine yC ?_;apply kP;refine zW (λk=>[(14,btsA l),(15,iv (l.length:Int)),(16,iv (k:Int))]) (λk=>[]) (λk=>k<=l.length/\btF (l.take k)=0) l.length (λk hk=>?_) (hJ:=by exact⟨by omega,by unfold btF;rfl⟩);obtain⟨xT,Z⟩:=hk;refine gd ?_ ?_<;>intro x4
 ·have N:=@getX _ l k (by omega);obtain⟨b,J,x3⟩:=N;refine gc (zcx ..) ?_;refine gd ?_ ?_<;>intro H
  ·have V:=zEM h0 J Z H;refine gq ?_;all_goals rw[V]
  have E:ckT b.Dur=0:=by omega
  refine gd ?_ ?_<;>intro U
  ·have V:=zEN h0 J Z E U;refine gq ?_;all_goals rw[V]
  have G:=zEO J Z E U;refine gq ?_;refine yu (k+1) (hJ:=by exact⟨by omega,G⟩) (hI:=yg)
 ·obtain rfl:k=l.length:=by omega
  have V:=zBx h0 Z;refine gq ?_;all_goals rw[V]
def zlV(s:Sp)(h:Hb):Fn prog 81 [spA s,hbA h] (.bool (usQ s h)):=by
 refine kR func81 ntmps81 (λg w d=>?_);refine gd ?_ ?_<;>intro Z
 ·refine gd ?_ ?_<;>intro V
  ·refine gq ?_;all_goals(first|(simp[usQ, *];done)|(simp_all[usQ];done)|(exfalso;omega))
  refine gd ?_ ?_<;>intro U
  ·apply ye;(iterate 2 refine ya ?_);refine kU 2 ?_;refine yo ?_;(iterate 2 refine kS ?_);refine ge ?_;all_goals(first|(simp[usQ, *];done)|(simp_all[usQ];done)|(exfalso;omega))
  refine gd ?_ ?_<;>intro T
  ·refine gq ?_;all_goals(first|(simp[usQ, *];done)|(simp_all[usQ];done)|(exfalso;omega))
  refine gd ?_ ?_<;>intro N
  ·refine gq ?_;all_goals(first|(simp[usQ, *];done)|(simp_all[usQ];done)|(exfalso;omega))
  refine gq ?_;all_goals(first|(simp[usQ, *];done)|(simp_all[usQ];done)|(exfalso;omega))
 ·refine gd ?_ ?_<;>intro J
  ·refine gq ?_;all_goals(first|(simp[usQ, *];done)|(simp_all[usQ];done)|(exfalso;omega))
  refine gd ?_ ?_<;>intro H
  ·apply ye;(iterate 2 refine ya ?_);refine kU 2 ?_;refine yo ?_;(iterate 2 refine kS ?_);refine ge ?_;all_goals(first|(simp[usQ, *];done)|(simp_all[usQ];done)|(exfalso;omega))
  refine gd ?_ ?_<;>intro G
  ·refine gq ?_;all_goals(first|(simp[usQ, *];done)|(simp_all[usQ];done)|(exfalso;omega))
  refine gd ?_ ?_<;>intro E
  ·refine gq ?_;all_goals(first|(simp[usQ, *];done)|(simp_all[usQ];done)|(exfalso;omega))
  refine gq ?_;all_goals(first|(simp[usQ, *];done)|(simp_all[usQ];done)|(exfalso;omega))
def zaf(b:Bool):Fn prog 129 [.bool b] (iv (b2i b)):=by
 refine kR func129 ntmps129 (λg w d=>?_);refine gd ?_ ?_<;>intro Z
 ·refine gq ?_;all_goals(first|(simp[b2i, *];done)|(simp_all[b2i];done))
 refine gq ?_;all_goals(first|(simp[b2i, *];done)|(simp_all[b2i];done))
def zea(x:Int):Fn prog 197 [iv x] (.bool false):=by
 refine kR func197 ntmps197 (λg w d=>?_);refine gq ?_;all_goals(simp)
def zbJ(x y:Int):Fn prog 131 [iv x,iv y] (iv (cmpI x y)):=by
 refine kR func131 ntmps131 (λg w d=>?_);refine gc (zea x) ?_;refine gc (zea y) ?_;refine gd ?_ ?_<;>intro Z
 ·refine gd ?_ ?_<;>intro V
  ·refine gq ?_;all_goals(first|(simp[cmpI, *];done)|(simp_all[cmpI];done)|(unfold cmpI;simp;omega))
  refine gq ?_;all_goals(first|(simp[cmpI, *];done)|(simp_all[cmpI];done)|(unfold cmpI;simp;omega))
 refine gd ?_ ?_<;>intro U
 ·refine gq ?_;all_goals(first|(simp[cmpI, *];done)|(simp_all[cmpI];done)|(unfold cmpI;simp;omega))
 refine gd ?_ ?_<;>intro T
 ·refine gq ?_;all_goals(first|(simp[cmpI, *];done)|(simp_all[cmpI];done)|(unfold cmpI;simp;omega))
 refine gd ?_ ?_<;>intro N
 ·refine gq ?_;all_goals(first|(simp[cmpI, *];done)|(simp_all[cmpI];done)|(unfold cmpI;simp;omega))
 refine gq ?_;all_goals(first|(simp[cmpI, *];done)|(simp_all[cmpI];done)|(unfold cmpI;simp;omega))
def zlW(l:List Int)(hl:l.length<=4000000000):Fn prog 130 [yc l] (iv (orV l)):=by
 refine kR func130 ntmps130 (λg w d=>?_);apply ye;refine ya ?_;apply yE;refine yj ?_;apply yh;apply ye;refine yC ?_;apply kP;refine zW (λk=>[(3,iv 0),(6,yc l),(7,iv (l.length:Int)),(8,iv (k:Int))]) (λk=>[]) (λk=>k<=l.length/\orV l=orV (l.drop k)) l.length (λk hk=>?_) (hJ:=by exact⟨by omega,rfl⟩);obtain⟨J,Z⟩:=hk;refine gd ?_ ?_<;>intro H
 ·have V:=@getX _ l k (by omega);obtain⟨x,hx,G⟩:=V;have ho:=zBy hx;refine gd ?_ ?_<;>intro U
  ·have T:orV l=x:=by rw[Z,ho,j7 U]
   refine gq ?_;all_goals rw[T]
  have N:orV l=orV (l.drop (k+1)):=by rw[Z,ho,j6 (by omega)]
  refine gq ?_;refine yu (k+1) (hJ:=by exact⟨by omega,N⟩) (hI:=yg)
 ·obtain rfl:k=l.length:=by omega
  have T:orV l=0:=by rw[Z,wT];rfl
  refine gq ?_;all_goals rw[T]
def zgb(f q:Fo):Fn prog 83 [foA f,foA q] (iv (foC f q)):=by
 refine kR func83 ntmps83 (λg w d=>?_);refine gq ?_;refine yW [4,6,7,8,9,10,11,12,13,14,15,16,17,18,19,20,21,22,23,24,25,26,27,28,29,30] [0,1,0,4,15,0,0,64,255,0,0,1024,4095,8191,0,0,32768,131071,0,0,524288,2097151,4194303,8388607,16777215,33554431] mo ?_;iterate 4 refine yb ?_
 refine yO (zbJ f.v q.v) ?_;iterate 3 refine yb ?_
 refine yO (zaf f.c) ?_;iterate 3 refine yb ?_
 refine yO (zaf q.c) ?_;refine yO (zbJ (b2i f.c) (b2i q.c)) ?_;iterate 3 refine yb ?_
 refine yO (zaf f.d) ?_;iterate 3 refine yb ?_
 refine yO (zaf q.d) ?_;refine yO (zbJ (b2i f.d) (b2i q.d)) ?_;refine ChM.step rfl rfl rfl (zzf (enc:=intE) (l:=[cmpI f.v q.v,cmpI (b2i f.c) (b2i q.c),cmpI (b2i f.d) (b2i q.d)]) sl22 ty3 ze3) rfl ?_;refine yO (zlW [cmpI f.v q.v,cmpI (b2i f.c) (b2i q.c),cmpI (b2i f.d) (b2i q.d)] (by simp)) ?_;refine yb ?_;refine yI ?_;refine gq ?_;all_goals exact zR
def zgc(f:Fo)(r:Bool):Fn prog 84 [foA f,.bool r] (sgsA (foS r f)):=by
 refine kR func84 ntmps84 (λg w d=>?_);refine gd ?_ ?_<;>intro Z
 ·refine gd ?_ ?_<;>intro V
  ·refine gq ?_;refine yD sgE [⟨2,f.v,0,0,false,0,false,false,⟨0,0,0,0⟩,false,0,0,0,0⟩,⟨3,0,0,0,false,0,false,false,⟨0,0,0,0⟩,false,0,0,0,0⟩] ?_;refine yj ?_;refine kQ ?_;refine kM (kL (k:=19) rfl) ?_;refine gq ?_;all_goals(exact j9 (λz=>sgsA z) (by simp[foS, *]))
  refine gq ?_;refine yD sgE [⟨2,f.v,0,0,false,0,false,false,⟨0,0,0,0⟩,false,0,0,0,0⟩] ?_;refine yj ?_;refine kQ ?_;refine kM (kL (k:=21) rfl) ?_;refine gq ?_;all_goals(exact j9 (λz=>sgsA z) (by simp[foS, *]))
 ·refine gd ?_ ?_<;>intro U
  ·refine gq ?_;refine yD sgE [⟨1,f.v,4,0,f.c,0,false,false,⟨0,0,0,0⟩,false,0,0,0,0⟩,⟨3,0,0,0,false,0,false,false,⟨0,0,0,0⟩,false,0,0,0,0⟩] ?_;refine yj ?_;refine kQ ?_;refine kM (kL (k:=19) rfl) ?_;refine gq ?_;all_goals(exact j9 (λz=>sgsA z) (by simp[foS, *]))
  refine gq ?_;refine yD sgE [⟨1,f.v,4,0,f.c,0,false,false,⟨0,0,0,0⟩,false,0,0,0,0⟩] ?_;refine yj ?_;refine kQ ?_;refine kM (kL (k:=21) rfl) ?_;refine gq ?_;all_goals(exact j9 (λz=>sgsA z) (by simp[foS, *]))
def zd3(l:List Bt)(hl:l.length<=4000000000):Fn prog 34 [btsA l] (tmsA (durB l)):=by
 have V:[]=durB (l.take 0):=rfl;refine kR func34 ntmps34 (λg w d=>?_);apply ye;refine ya ?_;apply yE;refine yj ?_;iterate 2 apply yh
 refine kT (yG tmE 61 2 3 30 rfl rfl) ?_;apply yf;refine yC ?_;apply kP;refine zm (λk=>[(6,btsA l),(7,iv (l.length:Int)),(8,iv (k:Int)),(3,.own 30)]) (λk=>[(30,.row tmE (durB (l.take k)) 61 2)]) l.length (λk hk=>?_);refine gd ?_ ?_<;>intro U
 ·have Z:=@getX _ l k (by omega);obtain⟨b,T,N⟩:=Z;have J:=znW T;have H:(durB (l.take k)).length<=l.length:=by rw[zeJ,jO];omega
  refine gq ?_;refine yD tmE [b.Dur] ?_;refine gq ?_;refine yu (k+1) (hI:=yg)
 ·obtain rfl:k=l.length:=by omega
  have G:durB (l.take l.length)=durB l:=by rw[jK]
  apply bA;apply ye;refine yQ ?_;refine kQ ?_;refine kM (kL (k:=30) rfl) ?_;refine gq ?_;all_goals(exact j9 (λz=>tmsA z) G)
def zlX(b:Bt)(r:Bool):Fn prog 40 [btA b,.bool r] (.bool (decide (b.Rest=r))):=by
 refine kR func40 ntmps40 (λg w d=>?_);refine gq ?_;all_goals(first|rfl|simp)
end
section
def cnP(m:Mn)(h:Hb):List Bt->Nat
 |[]=>1
 |b::r=>(frV m b h).length*cnP m h r
theorem zmW(m:Mn)(h:Hb)(b:Bt):∀l,cnP m h (l++[b])=cnP m h l*(frV m b h).length
 |[]=>by simp[cnP]
 |x::r=>by
  simp[cnP,zmW,Nat.mul_assoc]
def zBz{m:Mn}{h:Hb}{l:List Bt}{i:Nat}{b:Bt}(hi:l[i]? =some b):cnP m h (l.take (i+1))=cnP m h (l.take i)*(frV m b h).length:=by
 grind[List.take_add_one,zmW]
def zr6(m:Mn)(h:Hb):∀l,cnP m h l<=32^l.length
 |[]=>jE _
 |b::r=>by
  have h1:=zg0 m b h;have Z:=zr6 m h r;show(frV m b h).length*cnP m h r<=32^(r.length+1);rw[kA,u9];exact xN Z h1
def zyK{m:Mn}{h:Hb}{l:List Bt}(hl:l.length<=12)(i:Nat):cnP m h (l.take i)<=1152921504606846976:=by
 refine jT (zr6 m h _) ?_;rw[show 1152921504606846976=32^12 by decide];exact vA (by decide) (by grind)
def wcnE(m:Mn)(l:List Bt)(h:Hb):Int:=if wcE m l=0 then(if 12<l.length then 11 else if 4096<cnP m h l then 15 else 0)else wcE m l
def wcnV(m:Mn)(l:List Bt)(h:Hb):Int:=if wcnE m l h=0 then(cnP m h l:Int)else 0
def cqO(m:Mn)(h:Hb)(l:List Bt):Bool:=l.any λb=>decide ((frV m b h).length=0)
def cqS(m:Mn)(h:Hb)(n:Nat)(b:Bt):Nat:=if 0<(frV m b h).length/\n<=4096 then n*(frV m b h).length else n
def cqN(m:Mn)(h:Hb)(l:List Bt):Nat:=l.foldl (cqS m h) 1
def zBA{m:Mn}{h:Hb}{l:List Bt}{i:Nat}{b:Bt}(hi:l[i]? =some b):cqO m h (l.take (i+1))=(cqO m h (l.take i)||decide ((frV m b h).length=0)):=by
 unfold cqO;rw[jG,hi];simp
def zBB{m:Mn}{h:Hb}{l:List Bt}{i:Nat}{b:Bt}(hi:l[i]? =some b):cqN m h (l.take (i+1))=cqS m h (cqN m h (l.take i)) b:=by
 unfold cqN;rw[jG,hi];simp
def zyL{m:Mn}{h:Hb}{b:Bt}{n:Nat}(hn:n<=131072):cqS m h n b<=131072:=by
 have h1:=zg0 m b h;unfold cqS;generalize(frV m b h).length=k at h1⊢;by_cases Z:0<k/\n<=4096
 ·rw[j6 Z];have V:n*k<=4096*k:=jX k Z.2;omega
 grind
attribute [local irreducible] cqS frV
def zyM(m:Mn)(h:Hb)(l:List Bt):∀(n:Nat),n<=131072->l.foldl (cqS m h) n<=131072:=by
 induction l<;>simp_all[zyL]
def zwM(m:Mn)(h:Hb)(l:List Bt):∀(n:Nat),1<=n->cqO m h l=false->(4096<l.foldl (cqS m h) n↔4096<n*cnP m h l)/\(n*cnP m h l<=4096->l.foldl (cqS m h) n=n*cnP m h l):=by
 induction l with
 |nil=>simp[cnP]
 |cons b r ih=>
  intro n hn h0;unfold cqO at h0;simp only[kI,Bool.or_eq_false_iff,w5]at h0;obtain⟨h1,Z⟩:=h0
  have U:0<cnP m h r:=by
   clear hn ih
   induction r with
   |nil=>simp[cnP]
   |cons x r ih2=>
    simp only[kI,Bool.or_eq_false_iff,w5]at Z;exact Nat.mul_pos (by omega) (ih2 Z.2)
  rw[xB,show cnP m h (b::r)=(frV m b h).length*cnP m h r by rw[cnP]];rw[←Nat.mul_assoc];have T:0<(frV m b h).length:=by omega
  by_cases V:n<=4096
  ·have e:cqS m h n b=n*(frV m b h).length:=by simp_all[cqS]
   rw[e];exact ih _ (Nat.mul_pos hn T) Z
  ·have e:cqS m h n b=n:=by unfold cqS;rw[j7 (λN=>V N.2)]
   rw[e];have i1:=ih n hn Z;have g1:4096<n*cnP m h r:=w6 (by omega) (xI n U);have g2:4096<n*(frV m b h).length*cnP m h r:=w6 (by omega) (jT (xI n T) (xI _ U));omega
def zph{m:Mn}{h:Hb}:∀{l:List Bt},cqO m h l=true->cnP m h l=0
 |[],Z=>by simp[cqO]at Z
 |b::r,Z=>by
  unfold cqO at Z;simp only[kI,wJ,w4]at Z;show(frV m b h).length*cnP m h r=0;rcases Z with Z|Z
  ·grind
  ·rw[zph (l:=r) Z,Nat.mul_zero]
def reQ(m:Mn)(l:List Sg)(D:List Tm):Bool:=decide (rdE m l=0)&&decide ((rdV m l).Durs=D)
def srV(m:Mn)(D:List Tm):List (List (List Sg))->List Sg->Option (List Sg)
 |[],run=>if reQ m run D then some run else none
 |F::r,run=>F.findSome? λf=>srV m D r (run++f)
def zwN{m:Mn}{D:List Tm}{r:List (List (List Sg))}{run:List Sg}{F:List (List Sg)}{i:Nat}{f:List Sg}(hi:F[i]? =some f)(h0:(F.take i).findSome? (λf=>srV m D r (run++f))=none):(F.take (i+1)).findSome? (λf=>srV m D r (run++f))=srV m D r (run++f):=by
 grind[List.take_add_one]
def zr7{m:Mn}{D:List Tm}{r:List (List (List Sg))}{run:List Sg}{F:List (List Sg)}{i:Nat}{x:List Sg}(h:(F.take i).findSome? (λf=>srV m D r (run++f))=some x):srV m D (F::r) run=some x:=by
 grind[srV,List.take_append_drop]
def zik{m:Mn}{D:List Tm}:∀{C:List (List (List Sg))}{run x:List Sg}{n:Nat},(∀F∈C,∀f∈F,1<=f.length/\f.length<=n)->srV m D C run=some x->run.length+C.length<=x.length/\x.length<=run.length+n*C.length
 |[],run,x,n,_,h=>by
  simp_all[srV]
 |F::r,run,x,n,Z,h=>by
  unfold srV at h;obtain⟨f,hf,h1⟩:=List.exists_of_findSome?_eq_some h;obtain⟨U,T⟩:=zik (n:=n) (λG V=>Z G (wE _ V)) h1
  grind[Nat.mul_succ]
def chV(m:Mn)(l:List Bt)(h:Hb):List (List (List Sg)):=l.map λb=>frV m b h
theorem zup(r:Bool)(f:Fo):1<=(foS r f).length/\(foS r f).length<=2:=by
 grind[foS]
theorem zr8{m:Mn}{b:Bt}{h:Hb}{f:List Sg}(hf:f∈frV m b h):1<=f.length/\f.length<=2:=by
 grind[frV,zup]
def zmX{m:Mn}{l:List Bt}{h:Hb}:∀F∈chV m l h,∀f∈F,1<=f.length/\f.length<=2:=λF Z f hf=>by
 grind[chV,zr8]
def wrO(m:Mn)(l:List Bt)(h:Hb):Option (List Sg):=srV m (durB l) (chV m l h) []
def wrE(m:Mn)(l:List Bt)(h:Hb):Int:=if wcnE m l h=0 then(if l=[]then 0 else if(wrO m l h).isSome then 0 else 18)else wcnE m l h
def wrV(m:Mn)(l:List Bt)(h:Hb):List Sg:=if wcnE m l h=0 then(if l=[]then[]else(wrO m l h).getD [])else[]
end
section
def minL:List Int->Int->Int
 |[],a=>a
 |x::r,a=>minL r (if x<a then x else a)
def meV(m:Mn):Int:=match perfL m with
 |[]=>3
 |x::r=>minL r x
def meU(m:Mn):Tm:=yw m (meV m)
def whB(u s:Tm):Bool:=decide (whE s u=0)&&decide ((whR s u).N=0)
def bkE(u:Tm):Tm->List Bt->Int
 |_,[]=>0
 |s,b::r=>if addE s b.Dur=0 then bkE u (if whB u (addV s b.Dur)then⟨0,1⟩else addV s b.Dur) r else addE s b.Dur
def bkV(u:Tm):Tm->List Bt->List Bt->List (List Bt)
 |_,k,[]=>if k=[]then[]else[k]
 |s,k,b::r=>if whB u (addV s b.Dur)then(k++[b])::bkV u ⟨0,1⟩ [] r else bkV u (addV s b.Dur) (k++[b]) r
def blE(m:Mn)(l:List Bt):Int:=if wcE m l=0 then bkE (meU m) ⟨0,1⟩ l else wcE m l
def blV(m:Mn)(l:List Bt):List (List Bt):=if blE m l=0 then bkV (meU m) ⟨0,1⟩ [] l else[]
def btsE:List Bt->List AV:=λl=>[btsA l]
abbrev blsA(L:List (List Bt)):AV:=.sl btsE L
def suK(s:Tm)(l:List Bt):Nat->Tm
 |0=>s
 |k+1=>addV (suK s l k) (l.getD k default).Dur
def zjm{s:Tm}{l:List Bt}{k:Nat}{b:Bt}(h:l[k]? =some b):suK s l (k+1)=addV (suK s l k) b.Dur:=by
 show addV (suK s l k) (l.getD k default).Dur=_;rw[jD,h];rfl
structure BlK(u:Tm)(l:List Bt)(k:Nat):Prop where
 e:bkE u ⟨0,1⟩ l=bkE u (suK ⟨0,1⟩ l k) (l.drop k)
 v:bkV u ⟨0,1⟩ [] l=bkV u (suK ⟨0,1⟩ l k) (l.take k) (l.drop k)
def zBC(u:Tm)(l:List Bt):BlK u l 0:=⟨rfl,rfl⟩
def BlK.err{u:Tm}{l:List Bt}{k:Nat}{b:Bt}(h:BlK u l k)(Z:l[k]? =some b)(he:¬addE (suK ⟨0,1⟩ l k) b.Dur=0):bkE u ⟨0,1⟩ l=addE (suK ⟨0,1⟩ l k) b.Dur:=by
 have h1:=j5.1 Z;rw[h.e,jL h1.1,h1.2];show(if addE (suK ⟨0,1⟩ l k) b.Dur=0 then _ else _)=_;rw[j7 he]
def BlK.cut{u:Tm}{l:List Bt}{k:Nat}{b:Bt}(h:BlK u l k)(Z:l[k]? =some b)(he:addE (suK ⟨0,1⟩ l k) b.Dur=0)(V:whB u (suK ⟨0,1⟩ l (k+1))=true):bkE u ⟨0,1⟩ l=bkE u ⟨0,1⟩ (l.drop (k+1))/\bkV u ⟨0,1⟩ [] l=l.take (k+1)::bkV u ⟨0,1⟩ [] (l.drop (k+1)):=by
 have h1:=j5.1 Z;rw[zjm Z]at V;refine⟨?_,?_⟩
 ·rw[h.e,jL h1.1,h1.2];show(if addE (suK ⟨0,1⟩ l k) b.Dur=0 then bkE u (if whB u (addV (suK ⟨0,1⟩ l k) b.Dur)then⟨0,1⟩else _) _ else _)=_;rw[j6 he,j6 V]
 ·rw[h.v,jL h1.1,h1.2];show(if whB u (addV (suK ⟨0,1⟩ l k) b.Dur)then _ else _)=_;rw[j6 V,jG,Z];rfl
def BlK.s{u:Tm}{l:List Bt}{k:Nat}{b:Bt}(h:BlK u l k)(V:l[k]? =some b)(he:addE (suK ⟨0,1⟩ l k) b.Dur=0)(U:¬whB u (suK ⟨0,1⟩ l (k+1))=true):BlK u l (k+1):=by
 have h1:=j5.1 V;have Z:=U;rw[zjm V]at Z;refine⟨?_,?_⟩
 ·rw[h.e,jL h1.1,h1.2,zjm V];show(if addE (suK ⟨0,1⟩ l k) b.Dur=0 then bkE u (if whB u (addV (suK ⟨0,1⟩ l k) b.Dur)then _ else _) _ else _)=_;rw[j6 he,j7 Z]
 ·rw[h.v,jL h1.1,h1.2,zjm V];show(if whB u (addV (suK ⟨0,1⟩ l k) b.Dur)then _ else _)=_;rw[j7 Z,jG,V];rfl
def BlK.fin{u:Tm}{l:List Bt}(h:BlK u l l.length)(hl:0<l.length):bkE u ⟨0,1⟩ l=0/\bkV u ⟨0,1⟩ [] l=[l]:=by
 have e1:=h.e;have e2:=h.v;rw[wT]at e1 e2;rw[jK]at e2;refine⟨e1,?_⟩;rw[e2];show(if l=[]then[]else[l])=[l];rw[j7 (λe=>by rw[e]at hl;simp at hl)]
structure BlO(u:Tm)(l l':List Bt)(O:List (List Bt)):Prop where
 e:bkE u ⟨0,1⟩ l=bkE u ⟨0,1⟩ l'
 v:bkV u ⟨0,1⟩ [] l=O++bkV u ⟨0,1⟩ [] l'
 n:O.length+l'.length<=l.length
def zBD(u:Tm)(l:List Bt):BlO u l l []:=⟨rfl,rfl,by simp⟩
def BlO.cut{u:Tm}{l l':List Bt}{O:List (List Bt)}{k:Nat}{b:Bt}(h:BlO u l l' O)(hk:BlK u l' k)(Z:l'[k]? =some b)(he:addE (suK ⟨0,1⟩ l' k) b.Dur=0)(V:whB u (suK ⟨0,1⟩ l' (k+1))=true):BlO u l (l'.drop (k+1)) (O++[l'.take (k+1)]):=by
 obtain⟨h1,U⟩:=hk.cut Z he V;have T:=(j5.1 Z).1;have hn:=h.n;refine⟨h.e.trans h1,by rw[h.v,U];simp,?_⟩;simp only[jC,w8,wQ,u7];omega
def BlO.last{u:Tm}{l l':List Bt}{O:List (List Bt)}(h:BlO u l l' O)(hk:BlK u l' l'.length)(hl:0<l'.length):BlO u l [] (O++[l']):=by
 obtain⟨h1,Z⟩:=hk.fin hl;have hn:=h.n;refine⟨h.e.trans h1,by rw[h.v,Z];simp[bkV],?_⟩;simp only[jC,w8,wQ];omega
def zBE{m:Mn}{l:List Bt}(c:¬wcE m l=0):blE m l=wcE m l/\blV m l=[]:=by
 have e:blE m l=wcE m l:=by unfold blE;rw[j7 c]
 exact⟨e,by unfold blV;rw[e,j7 c]⟩
def zEP{m:Mn}{l l':List Bt}{O:List (List Bt)}{k:Nat}{b:Bt}(c:wcE m l=0)(h:BlO (meU m) l l' O)(hk:BlK (meU m) l' k)(Z:l'[k]? =some b)(he:¬addE (suK ⟨0,1⟩ l' k) b.Dur=0):blE m l=addE (suK ⟨0,1⟩ l' k) b.Dur/\blV m l=[]:=by
 have e:blE m l=addE (suK ⟨0,1⟩ l' k) b.Dur:=by unfold blE;rw[j6 c,h.e,hk.err Z he]
 exact⟨e,by unfold blV;rw[e,j7 he]⟩
def zEQ{m:Mn}{l:List Bt}{O:List (List Bt)}(c:wcE m l=0)(h:BlO (meU m) l [] O):blE m l=0/\blV m l=O:=by
 have e:blE m l=0:=by unfold blE;rw[j6 c,h.e];rfl
 exact⟨e,by unfold blV;rw[j6 e,h.v];simp[bkV]⟩
def meQ(m:Mn)(_:Int):Bool:=decide (1<=meV m)&&decide (meV m<=4)
def zuq:zdc meQ=true:=by kernel_rfl
end
end Go.Rse
