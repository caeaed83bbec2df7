/-
  Plain.
-/
import Derived.Test.YtbopkhoalndflaaGreatDoorYJDurs2
set_option linter.all false
namespace Go.Rse
open Go Go.Proofs Go.Proofs.Tryz
section
structure Bt where
 Dur:Tm
 Rest:Bool
 deriving DecidableEq
instance:Inhabited Bt:=⟨⟨⟨0,0⟩,false⟩⟩
def btE:Bt->List AV:=λb=>[iv b.Dur.N,iv b.Dur.D,.bool b.Rest]
abbrev btA(b:Bt):AV:=.agg (btE b)
abbrev btsA(l:List Bt):AV:=.sl btE l
def zs1(a b:Bt):eqL (btE a) (btE b)=some (decide (a=b)):=by
 obtain⟨⟨a1,a2⟩,a3⟩:=a;obtain⟨⟨b1,b2⟩,b3⟩:=b;refine(zh rfl (zh rfl (zh rfl rfl))).trans ?_;simp[xB,xF]
structure Hb where
 Color:Bool
 Dots:Bool
 Alter:Bool
 deriving DecidableEq
def hbE:Hb->List AV:=λh=>[.bool h.Color,.bool h.Dots,.bool h.Alter]
abbrev hbA(h:Hb):AV:=.agg (hbE h)
def sgsE:List Sg->List AV:=λl=>[sgsA l]
abbrev zca(L:List (List Sg)):AV:=.sl sgsE L
def zd5:List (List Sg)->List AV:=λl=>[zca l]
abbrev chsA(L:List (List (List Sg))):AV:=.sl zd5 L
structure Fo where
 v:Int
 c:Bool
 d:Bool
 deriving DecidableEq
instance:Inhabited Fo:=⟨⟨0,false,false⟩⟩
def foE:Fo->List AV:=λf=>[iv f.v,.bool f.c,.bool f.d]
abbrev foA(f:Fo):AV:=.agg (foE f)
def zs2(a b:Fo):eqL (foE a) (foE b)=some (decide (a=b)):=by
 cases a;cases b;refine(zh rfl (zh rfl (zh rfl rfl))).trans ?_;simp[xF]
def b2i(b:Bool):Int:=if b then 1 else 0
def foN(f:Fo):Int:=4*f.v+2*b2i f.c+b2i f.d
def zbb(b:Bool):0<=b2i b/\b2i b<=1:=by cases b<;>decide
theorem zs3{a b:Bool}(h:b2i a=b2i b):a=b:=by all_goals grind[b2i]
theorem zod{f g:Fo}(h:foN f=foN g):f=g:=by
 have Z:=zbb f.c;have V:=zbb f.d;have U:=zbb g.c;have T:=zbb g.d;unfold foN at h;have e1:f.v=g.v:=by omega
 have e2:b2i f.c=b2i g.c:=by omega
 have e3:b2i f.d=b2i g.d:=by omega
 cases f;cases g
 grind[zs3]
def btC(b:Bt):Int:=if ckT b.Dur=0 then(if b.Dur.N=0 then 2 else 0)else ckT b.Dur
def btF:List Bt->Int
 |[]=>0
 |b::r=>if btC b=0 then btF r else btC b
def wcE(m:Mn)(l:List Bt):Int:=if ckM m=0 then btF l else ckM m
theorem zk3:∀{l:List Bt},btF l=0↔∀b∈l,btC b=0
 |[]=>by simp[btF]
 |b::r=>by
  unfold btF;split
  ·rename_i h;rw[zk3 (l:=r)];simp[h]
  simp_all
def ziQ{l:List Bt}{i:Nat}{b:Bt}(hi:l[i]? =some b)(h:btF (l.take i)=0):btF (l.take (i+1))=btC b:=by
 have key:∀(l r:List Bt),btF l=0->btF (l++r)=btF r:=by
  intro l r
  induction l with
  |nil=>intro _;rfl
  |cons x l ih=>
   intro hx;unfold btF at hx;split at hx
   ·rename_i h0;show(if btC x=0 then btF (l++r)else btC x)=_;rw[j3 h0];exact ih hx
   ·exact absurd hx ‹_›
 grind[List.take_add_one,btF]
theorem ziR{l:List Bt}{i:Nat}(h:¬btF (l.take i)=0):btF l=btF (l.take i):=by
 have key:∀(l r:List Bt),¬btF l=0->btF (l++r)=btF l:=by
  intro l r
  induction l with
  |nil=>intro h;exact absurd rfl h
  |cons x l ih=>
   intro hx;unfold btF at hx;split at hx
   ·rename_i h0;show(if btC x=0 then btF (l++r)else btC x)=(if btC x=0 then btF l else btC x);rw[j3 h0,j3 h0];exact ih hx
   ·rename_i h0;show(if btC x=0 then btF (l++r)else btC x)=(if btC x=0 then btF l else btC x);rw[j4 h0,j4 h0]
 grind[List.take_append_drop]
def usQ(s:Sp)(h:Hb):Bool:=if s.Way=5\/s.Way=7 then h.Color else if s.Way=6 then h.Color&&h.Dots else if s.Way=2 then h.Dots else if s.Way=4 then h.Alter else true
def slQ(b:Bt)(h:Hb)(s:Sp):Bool:=decide (s.Rest=b.Rest)&&usQ s h
def fkS(b:Bt)(h:Hb)(s:Sp):List Fo:=if slQ b h s then(if s.Dot then[]else[⟨s.Value,s.Color,false⟩])++(if h.Dots then[⟨s.Value,s.Color,true⟩]else[])else[]
def fkL(b:Bt)(h:Hb)(L:List Sp):List Fo:=L.flatMap (fkS b h)
def foS(r:Bool)(f:Fo):List Sg:=
 let s:Sg:=if r then⟨2,f.v,0,0,false,0,false,false,⟨0,0,0,0⟩,false,0,0,0,0⟩else⟨1,f.v,4,0,f.c,0,false,false,⟨0,0,0,0⟩,false,0,0,0,0⟩
 if f.d then[s,⟨3,0,0,0,false,0,false,false,⟨0,0,0,0⟩,false,0,0,0,0⟩]else[s]
def rkC(b:Bt)(h:Hb)(L:List Sp)(v:Int)(c:Bool):List Fo:=
 (if L.any (λs=>slQ b h s&&decide (s.Value=v)&&decide (s.Color=c)&&!s.Dot)then[⟨v,c,false⟩]else[])++
 (if L.any (λs=>slQ b h s&&decide (s.Value=v)&&decide (s.Color=c))&&h.Dots then[⟨v,c,true⟩]else[])
def rkV(b:Bt)(h:Hb)(L:List Sp)(v:Int):List Fo:=rkC b h L v false++rkC b h L v true
def rkL(b:Bt)(h:Hb)(L:List Sp):Nat->List Fo
 |0=>[]
 |n+1=>rkL b h L n++rkV b h L (1+(n:Int))
theorem zoe{b:Bt}{h:Hb}{L:List Sp}{v:Int}{c:Bool}{f:Fo}:f∈rkC b h L v c↔f.v=v/\f.c=c/\f∈fkL b h L:=by
 unfold rkC fkL
 grind[fkS]
def zof{b:Bt}{h:Hb}{L:List Sp}{v:Int}{f:Fo}:f∈rkV b h L v↔f.v=v/\f∈fkL b h L:=by
 grind[rkV,zoe]
def zk4{b:Bt}{h:Hb}{L:List Sp}{f:Fo}:∀n,f∈rkL b h L n↔(1<=f.v/\f.v<=(n:Int))/\f∈fkL b h L
 |0=>by
  grind[rkL]
 |n+1=>by
  unfold rkL;rw[wN,zk4 n,zof]
  grind
def foL(f g:Fo):Prop:=foN f<foN g
theorem zwx(b:Bt)(h:Hb)(L:List Sp)(v:Int)(c:Bool):(rkC b h L v c).Pairwise foL:=by
 unfold rkC;rw[vQ];refine⟨by split<;>simp,by split<;>simp,λx hx y Z=>?_⟩
 grind[foL,foN,b2i]
def zwy(b:Bt)(h:Hb)(L:List Sp)(v:Int):(rkV b h L v).Pairwise foL:=by
 grind[rkV,zwx,zoe,foL,foN,b2i]
theorem zqQ(b:Bt)(h:Hb)(L:List Sp):∀n,(rkL b h L n).Pairwise foL
 |0=>by simp[rkL]
 |n+1=>by
  unfold rkL;rw[vQ];refine⟨zqQ b h L n,zwy b h L _,λx hx y Z=>?_⟩;have hx:=((zk4 n).1 hx).1;have Z:=(zof.1 Z).1;have V:=zbb x.c;have U:=zbb y.c;have T:=zbb x.d;have Q:=zbb y.d;unfold foL foN;omega
def frL(m:Mn)(b:Bt)(h:Hb):List Fo:=rkL b h (allE m b.Dur) 8
def frV(m:Mn)(b:Bt)(h:Hb):List (List Sg):=(frL m b h).map (foS b.Rest)
def zqR{m:Mn}{t:Tm}{v:Int}:∀n,∀s∈alI m t v n,∃w:Nat,1<=w/\w<n/\s=spOf v (w:Int)
 |0,s,h=>by simp[alI]at h
 |n+1,s,h=>by
  unfold alI at h;split at h
  ·rename_i T;rcases wN.1 h with h|h
   ·obtain⟨w,Z,U,V⟩:=zqR n s h;exact⟨w,Z,by omega,V⟩
   grind
  ·obtain⟨w,Z,U,V⟩:=zqR n s h;grind
theorem zuZ{m:Mn}{t:Tm}:∀n,∀s∈alO m t n,∃v w:Nat,1<=v/\v<=n/\1<=w/\w<9/\s=spOf (v:Int) (w:Int)
 |0,s,h=>by simp[alO]at h
 |n+1,s,h=>by
  unfold alO at h;rcases wN.1 h with h|h
  ·obtain⟨v,w,Z,V,U⟩:=zuZ n s h;grind
  ·obtain⟨w,Z,V,U⟩:=zqR 9 s h;exact⟨1+n,w,by omega,by omega,Z,V,by rw[U];congr 1⟩
def zqS{m:Mn}{t:Tm}{s:Sp}(h:s∈allE m t):∃v w:Nat,1<=v/\v<=8/\1<=w/\w<9/\s=spOf (v:Int) (w:Int):=by
 grind[allE,zuZ]
theorem zyY{m:Mn}{b:Bt}{h:Hb}{f:Fo}:f∈frL m b h↔f∈fkL b h (allE m b.Dur):=by
 unfold frL;rw[zk4];refine⟨λh=>h.2,λhf=>⟨?_,hf⟩⟩;unfold fkL at hf;obtain⟨s,hs,hf⟩:=List.mem_flatMap.1 hf;obtain⟨v,w,Z,V,-,-,rfl⟩:=zqS hs;unfold fkS at hf
 have:f.v=(v:Int):=by
  split at hf
  ·rcases wN.1 hf with hf|hf
   ·split at hf
    ·simp at hf
    ·rw[vK]at hf;rw[hf];rfl
   ·split at hf
    ·rw[vK]at hf;rw[hf];rfl
    ·simp at hf
  ·simp at hf
 all_goals omega
def zo8{l:List Fo}{m:Mn}{b:Bt}{h:Hb}(Z:l.Pairwise foL)(hm:∀f,f∈l↔f∈fkL b h (allE m b.Dur)):l=frL m b h:=by
 grind[foL,List.Pairwise.imp,frL,zqQ,List.Perm.eq_of_pairwise,List.perm_ext_iff_of_nodup,zyY]
def zog(m:Mn)(b:Bt)(h:Hb):(frL m b h).length<=32:=by
 have key:∀n,(rkL b h (allE m b.Dur) n).length<=4*n:=by
  intro n
  induction n with
  |zero=>simp[rkL]
  |succ n ih=>
   have Z:∀c,(rkC b h (allE m b.Dur) (1+(n:Int)) c).length<=2:=λc=>by
    unfold rkC;rw[jE];split<;>split<;>simp
   grind[rkL,rkV]
 exact key 8
def zgM(m:Mn)(b:Bt)(h:Hb):(frV m b h).length<=32:=by
 simp[frV,zog]
def urQ(b:Bt)(h:Hb)(s:Sp):Bool:=decide (s.Rest=b.Rest)&&(!s.Color||h.Color)&&(!s.Dot||h.Dots)&&(!decide (s.Way=4)||h.Alter)
theorem zu0{m:Mn}{t:Tm}{s:Sp}(hs:s∈allE m t)(b:Bt)(h:Hb):urQ b h s=slQ b h s:=by
 obtain⟨v,w,-,-,V,U,rfl⟩:=zqS hs;have Z:w=1\/w=2\/w=3\/w=4\/w=5\/w=6\/w=7\/w=8:=by omega
 obtain⟨c,d,a⟩:=h;unfold urQ slQ usQ;rcases Z with rfl|rfl|rfl|rfl|rfl|rfl|rfl|rfl<;>(rw[xB,xB];refine j5 (λz=>_&&z) ?_)<;>cases c<;>cases d<;>cases a<;>rfl
end
section
def zs4{m:Mn}{l:List Bt}(h:¬ckM m=0):wcE m l=ckM m:=by unfold wcE;rw[j4 h]
def zBD{m:Mn}{l:List Bt}{k:Nat}{b:Bt}(h0:ckM m=0)(Z:l[k]? =some b)(V:btF (l.take k)=0)(h:¬ckT b.Dur=0):wcE m l=ckT b.Dur:=by
 have e:=ziQ Z V;have e2:btC b=ckT b.Dur:=by unfold btC;rw[j4 h]
 unfold wcE;rw[j3 h0,ziR (i:=k+1) (by rw[e,e2];exact h),e,e2]
def zBE{m:Mn}{l:List Bt}{k:Nat}{b:Bt}(h0:ckM m=0)(Z:l[k]? =some b)(V:btF (l.take k)=0)(h:ckT b.Dur=0)(U:b.Dur.N=0):wcE m l=2:=by
 have e:=ziQ Z V;have e2:btC b=2:=by unfold btC;rw[j3 h,j3 U]
 unfold wcE;rw[j3 h0,ziR (i:=k+1) (by rw[e,e2];decide),e,e2]
def zBF{l:List Bt}{k:Nat}{b:Bt}(Z:l[k]? =some b)(V:btF (l.take k)=0)(h:ckT b.Dur=0)(U:¬b.Dur.N=0):btF (l.take (k+1))=0:=by
 rw[ziQ Z V];unfold btC;rw[j3 h,j4 U]
def zyZ{m:Mn}{l:List Bt}(h0:ckM m=0)(h:btF (l.take l.length)=0):wcE m l=0:=by
 rw[jH]at h;unfold wcE;rw[j3 h0,h]
def durB(l:List Bt):List Tm:=l.map (·.Dur)
def zk5{l:List Bt}{k:Nat}{b:Bt}(h:l[k]? =some b):durB (l.take k)++[b.Dur]=durB (l.take (k+1)):=by
 unfold durB;rw[jF,h];simp
def zeG(l:List Bt):(durB l).length=l.length:=by unfold durB;simp
def cmpI(a b:Int):Int:=if a<b then-1 else if b<a then 1 else 0
def orV:List Int->Int
 |[]=>0
 |x::r=>if x=0 then orV r else x
def zy0{l:List Int}{k:Nat}{x:Int}(h:l[k]? =some x):orV (l.drop k)=if x=0 then orV (l.drop (k+1))else x:=by
 have Z:=j1.1 h;rw[jG Z.1,Z.2];rfl
def foC(f g:Fo):Int:=orV [cmpI f.v g.v,cmpI (b2i f.c) (b2i g.c),cmpI (b2i f.d) (b2i g.d)]
theorem zaN(f g:Fo):(foC f g<0↔foN f<foN g)/\(foC f g=0↔foN f=foN g):=by
 have Z:=zbb f.c;have V:=zbb g.c;have U:=zbb f.d;have T:=zbb g.d;unfold foC foN;generalize b2i f.c=a at*
 generalize b2i g.c=b at*
 generalize b2i f.d=c at*
 generalize b2i g.d=d at*
 generalize f.v=x;generalize g.v=y;simp only[orV,cmpI];constructor<;>(repeat' split)<;>omega
attribute [local irreducible] Pur yA yC Ex X Fn Imp LeV LeB FnO It yH
attribute [local irreducible] wcE btF ckT ckM
def zb4(m:Mn)(l:List Bt)(hl:l.length<=4000000000):Fn prog 72 [mnA m,btsA l] (iv (wcE m l)):=by
 refine kF func72 ntmps72 (λg w d=>?_);refine gc (zaV ..) ?_;refine gd ?_ ?_<;>intro Q
 ·have V:=zs4 (l:=l) Q;refine gq ?_;all_goals rw[V]
 have h0:ckM m=0:=by omega
 apply yk;apply yf;apply ye;refine yE ?_;apply kB;refine zM (λk=>[(14,btsA l),(15,iv (l.length:Int)),(16,iv (k:Int))]) (λk=>[]) (λk=>k<=l.length/\btF (l.take k)=0) l.length (λk H=>?_) (hJ:=by exact⟨by omega,by unfold btF;rfl⟩);obtain⟨G,Z⟩:=H;refine gd ?_ ?_<;>intro E
 ·obtain⟨b,T⟩:∃b,l[k]? =some b:=⟨_,lgg (by omega)⟩;have xT:l[(k:Int).toNat]? =some b:=by simpa using T
  refine gc (zcq ..) ?_;refine gd ?_ ?_<;>intro N
  ·have V:=zBD h0 T Z N;refine gq ?_;all_goals rw[V]
  have I:ckT b.Dur=0:=by omega
  refine gd ?_ ?_<;>intro U
  ·have V:=zBE h0 T Z I U;refine gq ?_;all_goals rw[V]
  have J:=zBF T Z I U;refine gq ?_;refine yz (k+1) (hJ:=by exact⟨by omega,J⟩) (hI:=yi)
 ·obtain rfl:k=l.length:=by omega
  have V:=zyZ h0 Z;refine gq ?_;all_goals rw[V]
def zk6(s:Sp)(h:Hb):Fn prog 121 [spA s,hbA h] (.bool (usQ s h)):=by
 refine kF func121 ntmps121 (λg w d=>?_);refine gd ?_ ?_<;>intro Z
 ·refine gd ?_ ?_<;>intro V
  ·refine gq ?_;all_goals(first|(simp[usQ, *];done)|(simp_all[usQ];done)|(exfalso;omega))
  refine gd ?_ ?_<;>intro U
  ·apply ye;(iterate 2 refine ya ?_);refine kI 2 ?_;refine yp ?_;(iterate 2 refine kG ?_);refine ge ?_;all_goals(first|(simp[usQ, *];done)|(simp_all[usQ];done)|(exfalso;omega))
  refine gd ?_ ?_<;>intro T
  ·refine gq ?_;all_goals(first|(simp[usQ, *];done)|(simp_all[usQ];done)|(exfalso;omega))
  refine gd ?_ ?_<;>intro Q
  ·refine gq ?_;all_goals(first|(simp[usQ, *];done)|(simp_all[usQ];done)|(exfalso;omega))
  refine gq ?_;all_goals(first|(simp[usQ, *];done)|(simp_all[usQ];done)|(exfalso;omega))
 ·refine gd ?_ ?_<;>intro N
  ·refine gq ?_;all_goals(first|(simp[usQ, *];done)|(simp_all[usQ];done)|(exfalso;omega))
  refine gd ?_ ?_<;>intro J
  ·apply ye;(iterate 2 refine ya ?_);refine kI 2 ?_;refine yp ?_;(iterate 2 refine kG ?_);refine ge ?_;all_goals(first|(simp[usQ, *];done)|(simp_all[usQ];done)|(exfalso;omega))
  refine gd ?_ ?_<;>intro I
  ·refine gq ?_;all_goals(first|(simp[usQ, *];done)|(simp_all[usQ];done)|(exfalso;omega))
  refine gd ?_ ?_<;>intro H
  ·refine gq ?_;all_goals(first|(simp[usQ, *];done)|(simp_all[usQ];done)|(exfalso;omega))
  refine gq ?_;all_goals(first|(simp[usQ, *];done)|(simp_all[usQ];done)|(exfalso;omega))
def zab(b:Bool):Fn prog 171 [.bool b] (iv (b2i b)):=by
 refine kF func171 ntmps171 (λg w d=>?_);refine gd ?_ ?_<;>intro Z
 ·refine gq ?_;all_goals(first|(simp[b2i, *];done)|(simp_all[b2i];done))
 refine gq ?_;all_goals(first|(simp[b2i, *];done)|(simp_all[b2i];done))
def zd6(x:Int):Fn prog 140 [iv x] (.bool false):=by
 refine kF func140 ntmps140 (λg w d=>?_);refine gq ?_;all_goals(simp)
def zbE(x y:Int):Fn prog 99 [iv x,iv y] (iv (cmpI x y)):=by
 refine kF func99 ntmps99 (λg w d=>?_);refine gc (zd6 x) ?_;refine gc (zd6 y) ?_;refine gd ?_ ?_<;>intro Z
 ·refine gd ?_ ?_<;>intro V
  ·refine gq ?_;all_goals(first|(simp[cmpI, *];done)|(simp_all[cmpI];done)|(unfold cmpI;simp;omega))
  refine gq ?_;all_goals(first|(simp[cmpI, *];done)|(simp_all[cmpI];done)|(unfold cmpI;simp;omega))
 refine gd ?_ ?_<;>intro U
 ·refine gq ?_;all_goals(first|(simp[cmpI, *];done)|(simp_all[cmpI];done)|(unfold cmpI;simp;omega))
 refine gd ?_ ?_<;>intro T
 ·refine gq ?_;all_goals(first|(simp[cmpI, *];done)|(simp_all[cmpI];done)|(unfold cmpI;simp;omega))
 refine gd ?_ ?_<;>intro Q
 ·refine gq ?_;all_goals(first|(simp[cmpI, *];done)|(simp_all[cmpI];done)|(unfold cmpI;simp;omega))
 refine gq ?_;all_goals(first|(simp[cmpI, *];done)|(simp_all[cmpI];done)|(unfold cmpI;simp;omega))
def zk7(l:List Int)(hl:l.length<=4000000000):Fn prog 98 [yc l] (iv (orV l)):=by
 refine kF func98 ntmps98 (λg w d=>?_);apply ye;refine ya ?_;apply yG;refine yh ?_;apply yf;apply ye;refine yE ?_;apply kB;refine zM (λk=>[(3,iv 0),(6,yc l),(7,iv (l.length:Int)),(8,iv (k:Int))]) (λk=>[]) (λk=>k<=l.length/\orV l=orV (l.drop k)) l.length (λk Q=>?_) (hJ:=by exact⟨by omega,rfl⟩);obtain⟨N,Z⟩:=Q;refine gd ?_ ?_<;>intro J
 ·obtain⟨x,hx⟩:∃x,l[k]? =some x:=⟨_,lgg (by omega)⟩;have I:l[(k:Int).toNat]? =some x:=by simpa using hx
  have ho:=zy0 hx;refine gd ?_ ?_<;>intro V
  ·have U:orV l=x:=by rw[Z,ho,j4 V]
   refine gq ?_;all_goals rw[U]
  have T:orV l=orV (l.drop (k+1)):=by rw[Z,ho,j3 (by omega)]
  refine gq ?_;refine yz (k+1) (hJ:=by exact⟨by omega,T⟩) (hI:=yi)
 ·obtain rfl:k=l.length:=by omega
  have U:orV l=0:=by rw[Z,wQ];rfl
  refine gq ?_;all_goals rw[U]
set_option maxHeartbeats 2000000 in
def zf4(f q:Fo):Fn prog 123 [foA f,foA q] (iv (foC f q)):=by
 refine kF func123 ntmps123 (λg w d=>?_);refine gq ?_;refine yW [4,6,7,8,9,10,11,12,13,14,15,16,17,18,19,20,21,22,23,24,25,26,27,28,29,30] [0,1,0,4,15,0,0,64,255,0,0,1024,4095,8191,0,0,32768,131071,0,0,524288,2097151,4194303,8388607,16777215,33554431] mo ?_;iterate 4 refine yb ?_
 refine yL (zbE f.v q.v) ?_;iterate 3 refine yb ?_
 refine yL (zab f.c) ?_;iterate 3 refine yb ?_
 refine yL (zab q.c) ?_;refine yL (zbE (b2i f.c) (b2i q.c)) ?_;iterate 3 refine yb ?_
 refine yL (zab f.d) ?_;iterate 3 refine yb ?_
 refine yL (zab q.d) ?_;refine yL (zbE (b2i f.d) (b2i q.d)) ?_;refine ChM.step rfl rfl rfl (zwZ (enc:=intE) (l:=[cmpI f.v q.v,cmpI (b2i f.c) (b2i q.c),cmpI (b2i f.d) (b2i q.d)]) sl46 ty3 ze3) rfl ?_;refine yL (zk7 [cmpI f.v q.v,cmpI (b2i f.c) (b2i q.c),cmpI (b2i f.d) (b2i q.d)] (by simp)) ?_;refine yb ?_;refine yF ?_;refine gq ?_;all_goals exact zR
set_option maxHeartbeats 2000000 in
def zf5(f:Fo)(r:Bool):Fn prog 124 [foA f,.bool r] (sgsA (foS r f)):=by
 refine kF func124 ntmps124 (λg w d=>?_);refine gd ?_ ?_<;>intro Z
 ·refine gd ?_ ?_<;>intro V
  ·refine gq ?_;refine yD sgE [⟨2,f.v,0,0,false,0,false,false,⟨0,0,0,0⟩,false,0,0,0,0⟩,⟨3,0,0,0,false,0,false,false,⟨0,0,0,0⟩,false,0,0,0,0⟩] ?_;refine yh ?_;refine kE ?_;refine kA (k9 (k:=19) rfl) ?_;refine gq ?_;all_goals(exact j5 (λz=>sgsA z) (by simp[foS, *]))
  refine gq ?_;refine yD sgE [⟨2,f.v,0,0,false,0,false,false,⟨0,0,0,0⟩,false,0,0,0,0⟩] ?_;refine yh ?_;refine kE ?_;refine kA (k9 (k:=21) rfl) ?_;refine gq ?_;all_goals(exact j5 (λz=>sgsA z) (by simp[foS, *]))
 ·refine gd ?_ ?_<;>intro U
  ·refine gq ?_;refine yD sgE [⟨1,f.v,4,0,f.c,0,false,false,⟨0,0,0,0⟩,false,0,0,0,0⟩,⟨3,0,0,0,false,0,false,false,⟨0,0,0,0⟩,false,0,0,0,0⟩] ?_;refine yh ?_;refine kE ?_;refine kA (k9 (k:=19) rfl) ?_;refine gq ?_;all_goals(exact j5 (λz=>sgsA z) (by simp[foS, *]))
  refine gq ?_;refine yD sgE [⟨1,f.v,4,0,f.c,0,false,false,⟨0,0,0,0⟩,false,0,0,0,0⟩] ?_;refine yh ?_;refine kE ?_;refine kA (k9 (k:=21) rfl) ?_;refine gq ?_;all_goals(exact j5 (λz=>sgsA z) (by simp[foS, *]))
def zdZ(l:List Bt)(hl:l.length<=4000000000):Fn prog 80 [btsA l] (tmsA (durB l)):=by
 have V:[]=durB (l.take 0):=rfl;refine kF func80 ntmps80 (λg w d=>?_);apply ye;refine ya ?_;apply yG;refine yh ?_;iterate 2 apply yf
 refine kJ (yI tmE 83 2 3 30 rfl rfl) ?_;apply yj;refine yE ?_;apply kB;refine zu (λk=>[(6,btsA l),(7,iv (l.length:Int)),(8,iv (k:Int)),(3,.own 30)]) (λk=>[(30,.row tmE (durB (l.take k)) 83 2)]) l.length (λk I=>?_);refine gd ?_ ?_<;>intro U
 ·obtain⟨b,Z⟩:∃b,l[k]? =some b:=⟨_,lgg (by omega)⟩;have T:l[(k:Int).toNat]? =some b:=by simpa using Z
  have Q:=zk5 Z;have N:(durB (l.take k)).length<=l.length:=by rw[zeG,jM];omega
  refine gq ?_;refine yD tmE [b.Dur] ?_;refine gq ?_;refine yz (k+1) (hI:=yi)
 ·obtain rfl:k=l.length:=by omega
  have J:durB (l.take l.length)=durB l:=by rw[jH]
  apply kO;apply ye;refine yO ?_;refine kE ?_;refine kA (k9 (k:=30) rfl) ?_;refine gq ?_;all_goals(exact j5 (λz=>tmsA z) J)
def zk8(b:Bt)(r:Bool):Fn prog 78 [btA b,.bool r] (.bool (decide (b.Rest=r))):=by
 refine kF func78 ntmps78 (λg w d=>?_);refine gq ?_;all_goals(first|rfl|simp)
end
end Go.Rse
namespace Go.Rse
open Go Go.RowKit Go.Proofs.Tryz
section
variable{κ:Type}[DecidableEq κ]
def kyK(L:List κ):List (κ×Bool):=L.foldl (λa t=>kput t true a) []
def ziS(L:List κ)(t:κ):kput t true (kyK L)=kyK (L++[t]):=by
 simp[kyK]
theorem kyKG:∀(L:List κ)(a:List (κ×Bool)),(a.map (·.1)).Nodup->((L.foldl (λa t=>kput t true a) a).map (·.1)).Nodup/\∀x,x∈(L.foldl (λa t=>kput t true a) a).map (·.1)↔x∈a.map (·.1)\/x∈L
 |[],a,h=>⟨h,λx=>by simp⟩
 |t::L,a,h=>by
  have V:=zpi t true a
  have U:((kput t true a).map (·.1)).Nodup:=by
   rw[V];split
   ·exact h
   ·rename_i T;refine vA.2 ⟨h,by simp,λx hx y Z e=>?_⟩;simp at Z;subst Z;subst e;exact T hx
  obtain⟨i1,i2⟩:=kyKG L (kput t true a) U
  grind
def zs5(L:List κ):((kyK L).map (·.1)).Nodup/\∀x,x∈(kyK L).map (·.1)↔x∈L:=by
 grind[kyKG,kyK]
def zs6(L:List κ):(kyK L).length<=L.length:=by
 have key:∀(L:List κ)(a:List (κ×Bool)),(L.foldl (λa t=>kput t true a) a).length<=a.length+L.length:=by
  intro L
  induction L with
  |nil=>intro a;simp
  |cons t r ih=>
   intro a;have Z:=ih (kput t true a);have V:(kput t true a).length<=a.length+1:=by unfold kput;split<;>simp
   simp only[x5,wH];omega
 grind[kyK]
end
structure RnJ(n:Nat)(s:Array Nat):Prop where
 nd:s.toList.Nodup
 lt:∀x∈s.toList,x<n
def zy1(n:Nat):RnJ n #[]:=⟨by simp,by simp⟩
def RnJ.s{n i:Nat}{s:Array Nat}(h:RnJ n s)(hi:i<n)(V:s.contains i=false):RnJ n (s.push i):=by
 have U:i∉s.toList:=λhm=>by
  have:s.contains i=true:=by simpa using hm
  rw[V]at this;cases this
 refine⟨?_,λx hx=>?_⟩
 ·rw[Array.toList_push];refine vA.2 ⟨h.nd,by simp,λx hx y Z e=>?_⟩;simp at Z;subst Z;subst e;exact U hx
 ·rw[Array.toList_push]at hx;rcases wN.1 hx with hx|hx
  ·exact h.lt x hx
  ·simp at hx;omega
def zoh:∀(n:Nat)(L:List Nat),L.Nodup->(∀x∈L,x<n)->L.length<=n
 |0,L,_,h=>by
  cases L with
  |nil=>simp
  |cons x r=>exact absurd (h x (by simp)) (by omega)
 |n+1,L,Z,V=>by
  have T:=zoh n (L.erase n) (Z.erase n) λx hx=>by
   have:=V x (List.mem_of_mem_erase hx)
   have U:x≠n:=λe=>by
    subst e;exact(List.Nodup.not_mem_erase Z) hx
   omega
  grind
def RnJ.le{n:Nat}{s:Array Nat}(h:RnJ n s):s.size<=n:=by
 have:=zoh n s.toList h.nd h.lt;simpa using this
section
variable{κ:Type}[Inhabited κ]
def ouK(K:List (κ×Bool))(s:Array Nat):List κ:=s.toList.map λi=>(K.getD i default).1
def zy2(K:List (κ×Bool)):[]=ouK K #[]:=rfl
def zy3{K:List (κ×Bool)}{s:Array Nat}{i:Nat}{p:κ×Bool}(h:K[i]? =some p):ouK K s++[p.1]=ouK K (s.push i):=by
 simp_all[ouK]
def zoi(K:List (κ×Bool))(s:Array Nat):(ouK K s).length=s.size:=by unfold ouK;simp
def zs7[DecidableEq κ]{L:List κ}{s:Array Nat}(h:RnJ (kyK L).length s)(hs:∀i,i<(kyK L).length->s.contains i=true):(ouK (kyK L) s).Nodup/\∀x,x∈ouK (kyK L) s↔x∈L:=by
 obtain⟨k1,k2⟩:=zs5 L;refine⟨?_,λx=>?_⟩
 ·unfold ouK;rw[List.Nodup,List.pairwise_map];refine List.Pairwise.imp_of_mem (λ{a b}V U T e=>?_) h.nd;have la:=h.lt a V;have lb:=h.lt b U
  grind[List.pairwise_iff_getElem]
 ·rw[←k2 x];constructor
  ·intro hx;unfold ouK at hx;obtain⟨i,hi,rfl⟩:=jW.1 hx;have hl:=h.lt i hi
   grind
  ·intro hx;obtain⟨p,Q,rfl⟩:=jW.1 hx;obtain⟨i,hi⟩:=jP.1 Q;have Z:=(j1.1 hi).1;unfold ouK;refine jW.2 ⟨i,by simpa using hs i Z,?_⟩;simp_all
end
end Go.Rse
