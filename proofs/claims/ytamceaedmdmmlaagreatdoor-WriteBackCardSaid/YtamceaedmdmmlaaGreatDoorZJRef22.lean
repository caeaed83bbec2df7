/-
  Walks.
-/
import Derived.Test.YtamceaedmdmmlaaGreatDoorZJShelf3
set_option linter.all false
set_option maxHeartbeats 4000000
namespace Go.Rse
open Go Go.Proofs Go.Proofs.Tryz
attribute [local irreducible] Pur yy yz Ex X Fn Imp LeV LeB FnO It yH
section
def inA(l:List Tm)(t:Tm):Nat:=l.findIdx λu=>!decide (cmpV u t<0)
def insT(l:List Tm)(t:Tm):List Tm:=if l[inA l t]? =some t then l else l.take (inA l t)++[t]++l.drop (inA l t)
def zx7(l:List Tm)(t:Tm):inA l t<=l.length:=List.findIdx_le_length
def zrp{l:List Tm}{t:Tm}{k:Nat}(h:∀i u,i<k->l[i]? =some u->cmpV u t<0)(hk:k<=l.length)(U:k=l.length\/∃u,l[k]? =some u/\¬cmpV u t<0):inA l t=k:=by
 unfold inA;rcases U with rfl|⟨u,V,hn⟩
 ·refine uP.2 λx hx=>?_
  obtain⟨i,hi⟩:=jQ.1 hx;have:=h i x (j5.1 hi).1 hi;simp[this]
 ·have Z:=(j5.1 V).1;refine(List.findIdx_eq Z).2 ⟨?_,λj T=>?_⟩
  ·rw[(j5.1 V).2];simp;omega
  ·have:=h j _ T (lgg (by omega));simp[this]
def zrq(l:List Tm)(t:Tm):(insT l t).length<=l.length+1:=by
 have:=zx7 l t;unfold insT;split<;>simp<;>omega
attribute [local irreducible] cmpV
def zcO(v y:Int):Fn prog 94 [iv v,iv y] (spA (spOf v y)):=by
 refine kR func94 ntmps94 (λg w d=>?_);apply ye;refine za ?_;apply yE;iterate 5 refine ya ?_
 refine kU 5 ?_;refine yo ?_;iterate 2 refine kS ?_
 iterate 2 refine yo ?_
 iterate 2 refine kS ?_
 iterate 4 refine yo ?_
 iterate 2 refine kS ?_
 refine ge ?_;refine kY (.one (.cellA rfl rfl rfl rfl zw1 (kO ?_)));all_goals rfl
def zcP(a b:Tm):Fn prog 214 [tmA a,tmA b] (.bool (decide (cmpV a b<0))):=by
 refine kR func214 ntmps214 (λg w d=>?_);refine gc (zbU a b) ?_;all_goals exact zR
def zf2(m:Mn)(t:Tm):Fn prog 92 [mnA m,tmA t] (iv (bthE m t)):=by
 refine kR func92 ntmps92 (λg w d=>?_);refine gc (zn m) ?_;refine gd ?_ ?_<;>intro Z
 ·refine gc (zS t) ?_;all_goals(unfold bthE;rw[j6 Z])
 ·refine gq ?_;all_goals(unfold bthE;rw[j7 Z])
def zaQ(t:Tm)(n q:Int)(h:-9223372036854775808<=t.N*n/\t.N*n<=9223372036854775807)(Z:-9223372036854775808<=t.D*q/\t.D*q<=9223372036854775807):Fn prog 145 [tmA t,iv n,iv q] (tmsA [tmkT (t.N*n) (t.D*q)]):=by
 refine kR func145 ntmps145 (λg w d=>?_);refine gc (zcV (t.N*n) (t.D*q) (by omega) (by omega)) ?_;refine yD tmE [tmkT (t.N*n) (t.D*q)] ?_;refine yj ?_;refine kQ ?_;refine kM (kL (k:=22) rfl) ?_;refine gq ?_;all_goals rfl
def zex(l:List Tm)(t:Tm)(hl:l.length<=100000):Fn prog 213 [tmsA l,tmA t] (tmsA (insT l t)):=by
 refine kR func213 ntmps213 (λg w d=>?_);apply ye;refine zz ?_;refine ya ?_;apply yE;refine yj ?_;apply yh;apply kP;refine zW (λk=>[(0,tmsA l),(3,.ptr 3 0 0 0),(5,iv (k:Int))]) (λk=>[(3,.box (tmE t) 61)]) (λk=>k<=l.length/\∀i u,i<k->l[i]? =some u->cmpV u t<0) l.length (λk hk=>?_) (hJ:=by exact⟨by omega,λi u h=>absurd h (u0 i)⟩) (h0:=yd);obtain⟨T,Z⟩:=hk
 have hv:k<l.length->l[k]? =some (l.getD (k:Int).toNat default):=λh=>by
  rw[wN,jD,lgg h];rfl
 refine gq ?_;refine yW [6,7,8,9,10,11,12,13,14,15,16,17] [0,0,2,7,15,31,31,127,255,31,1023,2047] mo ?_;iterate 5 refine yb ?_
 iterate 5 refine kZ ?_
 refine bK (zcP (l.getD (k:Int).toNat default) t) ?_;refine yb ?_;refine yI ?_;refine gd ?_ ?_<;>intro N
 ·refine gq ?_
  refine yu (k+1) (hJ:=by
   refine⟨by omega,λi u hi J=>?_⟩;rcases wG.1 hi with h|h
   ·exact Z i u h J
   ·subst h;rw[hv (by omega)]at J;injection J with J;subst J;exact N.2)
 ·have H:inA l t=k:=by
   by_cases V:k<l.length
   ·exact zrp Z T (.inr ⟨_,hv V,by rcases N with h|h;omega;omega⟩)
   ·exact zrp Z T (.inl (by omega))
  refine gq ?_;refine yW [20,21,22,23,24,25,26,27,28,29,30,31] [0,0,2,7,15,31,31,127,255,31,1023,2047] mo ?_;iterate 5 refine yb ?_
  iterate 6 refine kZ ?_
  refine yb ?_;refine yI ?_;refine gd ?_ ?_<;>intro G
  ·have E:l=insT l t:=by unfold insT;rw[H,hv (by omega),j6 (by rw[G.2])]
   refine gq ?_;all_goals exact j9 tmsA E
  have E:[]++l.take (k:Int).toNat++[t]++l.drop (k:Int).toNat=insT l t:=by
   unfold insT;rw[H,wN,j7 (λe=>?_)];simp;have V:=(j5.1 e).1;rw[hv V]at e;injection e with e;rcases G with h|h;omega;exact h e
  refine gq ?_;refine bI [⟨1,34,tmsA l,[]⟩,⟨2,35,iv (k:Int),[]⟩,⟨3,36,tmsA (l.take (k:Int).toNat),[2,1]⟩,⟨5,38,tmA t,[]⟩,⟨6,39,tmsA [t],[5]⟩,⟨8,41,tmsA l,[]⟩,⟨9,42,iv (k:Int),[]⟩,⟨10,43,tmsA (l.drop (k:Int).toNat),[9,8]⟩] [(0,[]),(4,[2,1,3,0]),(7,[2,1,5,3,0,6,4]),(11,[2,1,5,3,0,9,8,6,4,10,7]),(12,[10,9,8,7,6,5,4,3,2,1,0,11])] (λj=>match j with|0=>⟨[(0,tmsA l),(3,.ptr 3 0 0 0),(5,iv (k:Int))],[(3,.box (tmE t) 61)]⟩|1=>⟨[(0,tmsA l),(3,.ptr 3 0 0 0),(5,iv (k:Int)),(33,.own 33)],[(3,.box (tmE t) 61),(33,.row tmE ([]) 61 2)]⟩|2=>⟨[(0,tmsA l),(3,.ptr 3 0 0 0),(5,iv (k:Int)),(37,.own 33)],[(3,.box (tmE t) 61),(33,.row tmE ([]++l.take (k:Int).toNat) 61 2)]⟩|3=>⟨[(0,tmsA l),(3,.ptr 3 0 0 0),(5,iv (k:Int)),(40,.own 33)],[(3,.box (tmE t) 61),(33,.row tmE ([]++l.take (k:Int).toNat++[t]) 61 2)]⟩|4=>⟨[(0,tmsA l),(3,.ptr 3 0 0 0),(5,iv (k:Int)),(44,.own 33)],[(3,.box (tmE t) 61),(33,.row tmE ([]++l.take (k:Int).toNat++[t]++l.drop (k:Int).toNat) 61 2)]⟩|_=>⟨[(0,tmsA l),(3,.ptr 3 0 0 0),(5,iv (k:Int)),(4,.own 33)],[(3,.box (tmE t) 61),(33,.row tmE ([]++l.take (k:Int).toNat++[t]++l.drop (k:Int).toNat) 61 2)]⟩) mo (by kernel_rfl) (zj (yd)) (λj hj=>?_) (λj c U β hβ=>?_) ?_
  ·rcases j with _|_|_|_|_|_|j
   ·iterate 2 refine⟨.inr ⟨_,rfl,rfl,rfl,rfl,kK yK⟩,?_⟩
    first
     |refine⟨.inr ⟨_,rfl,rfl,rfl,rfl,kK (zcB rfl rfl rfl sl38 ty61 (by omega) (by omega))⟩,?_⟩
     |refine⟨.inr ⟨_,rfl,rfl,rfl,rfl,kK (zdi rfl rfl sl38 ty61 (λ_=>rfl) (by omega) (by omega))⟩,?_⟩
    refine⟨.inr ⟨_,rfl,rfl,rfl,rfl,kK yK⟩,?_⟩;refine⟨.inr ⟨_,rfl,rfl,rfl,rfl,yr (enc:=tmE) (l:=[t]) sl38 ty61 ze61 (by decide) rfl rfl rfl rfl (by decide) (by decide) (λ_=>rfl) rfl⟩,?_⟩;iterate 2 refine⟨.inr ⟨_,rfl,rfl,rfl,rfl,kK yK⟩,?_⟩
    first
     |refine⟨.inr ⟨_,rfl,rfl,rfl,rfl,kK (zx rfl rfl rfl sl38 ty61 (by omega) (by omega))⟩,?_⟩
     |refine⟨.inr ⟨_,rfl,rfl,rfl,rfl,kK (zY rfl rfl sl38 ty61 (λ_=>rfl) (by omega) (by omega))⟩,?_⟩
    exact True.intro
   ·iterate 2 refine⟨.inr ⟨_,rfl,rfl,rfl,rfl,kK yK⟩,?_⟩
    first
     |refine⟨.inr ⟨_,rfl,rfl,rfl,rfl,kK (zcB rfl rfl rfl sl38 ty61 (by omega) (by omega))⟩,?_⟩
     |refine⟨.inr ⟨_,rfl,rfl,rfl,rfl,kK (zdi rfl rfl sl38 ty61 (λ_=>rfl) (by omega) (by omega))⟩,?_⟩
    refine⟨.inr ⟨_,rfl,rfl,rfl,rfl,kK yK⟩,?_⟩;refine⟨.inr ⟨_,rfl,rfl,rfl,rfl,yr (enc:=tmE) (l:=[t]) sl38 ty61 ze61 (by decide) rfl rfl rfl rfl (by decide) (by decide) (λ_=>rfl) rfl⟩,?_⟩;iterate 2 refine⟨.inr ⟨_,rfl,rfl,rfl,rfl,kK yK⟩,?_⟩
    first
     |refine⟨.inr ⟨_,rfl,rfl,rfl,rfl,kK (zx rfl rfl rfl sl38 ty61 (by omega) (by omega))⟩,?_⟩
     |refine⟨.inr ⟨_,rfl,rfl,rfl,rfl,kK (zY rfl rfl sl38 ty61 (λ_=>rfl) (by omega) (by omega))⟩,?_⟩
    exact True.intro
   ·(iterate 3 refine⟨.inl rfl,?_⟩);refine⟨.inr ⟨_,rfl,rfl,rfl,rfl,kK yK⟩,?_⟩;refine⟨.inr ⟨_,rfl,rfl,rfl,rfl,yr (enc:=tmE) (l:=[t]) sl38 ty61 ze61 (by decide) rfl rfl rfl rfl (by decide) (by decide) (λ_=>rfl) rfl⟩,?_⟩;iterate 2 refine⟨.inr ⟨_,rfl,rfl,rfl,rfl,kK yK⟩,?_⟩
    first
     |refine⟨.inr ⟨_,rfl,rfl,rfl,rfl,kK (zx rfl rfl rfl sl38 ty61 (by omega) (by omega))⟩,?_⟩
     |refine⟨.inr ⟨_,rfl,rfl,rfl,rfl,kK (zY rfl rfl sl38 ty61 (λ_=>rfl) (by omega) (by omega))⟩,?_⟩
    exact True.intro
   ·(iterate 5 refine⟨.inl rfl,?_⟩);iterate 2 refine⟨.inr ⟨_,rfl,rfl,rfl,rfl,kK yK⟩,?_⟩
    first
     |refine⟨.inr ⟨_,rfl,rfl,rfl,rfl,kK (zx rfl rfl rfl sl38 ty61 (by omega) (by omega))⟩,?_⟩
     |refine⟨.inr ⟨_,rfl,rfl,rfl,rfl,kK (zY rfl rfl sl38 ty61 (λ_=>rfl) (by omega) (by omega))⟩,?_⟩
    exact True.intro
   ·exact yF
   ·exact yF
   ·exact absurd (show j+6<=5 from hj) (by omega)
  ·rcases j with _|_|_|_|_|j
   ·obtain rfl:(0,[])=c:=by injection U
    refine yp rfl (yn (st0:=⟨[(34,.ifb (β 1) (tmsA l)),(35,.ifb (β 2) (iv (k:Int))),(36,.ifb (β 3) (tmsA (l.take (k:Int).toNat))),(38,.ifb (β 5) (tmA t)),(39,.ifb (β 6) (tmsA [t])),(41,.ifb (β 8) (tmsA l)),(42,.ifb (β 9) (iv (k:Int))),(43,.ifb (β 10) (tmsA (l.drop (k:Int).toNat))),(0,tmsA l),(3,.ptr 3 0 0 0),(5,iv (k:Int))],[(3,.box (tmE t) 61)]⟩) (ym) ?_);refine yz.imp (yL (zaj (k:=33) (enc:=tmE) (l:=([]:List Tm)) sl38 ty61 ze61 (by decide) rfl rfl rfl rfl (by decide) (by decide) (λ_=>rfl) rfl) rfl rfl) (ym)
   ·obtain rfl:(4,[2,1,3,0])=c:=by injection U
    refine yp rfl (yn (st0:=⟨[(34,tmsA l),(35,iv (k:Int)),(36,tmsA (l.take (k:Int).toNat)),(38,.ifb (β 5) (tmA t)),(39,.ifb (β 6) (tmsA [t])),(41,.ifb (β 8) (tmsA l)),(42,.ifb (β 9) (iv (k:Int))),(43,.ifb (β 10) (tmsA (l.drop (k:Int).toNat))),(0,tmsA l),(3,.ptr 3 0 0 0),(5,iv (k:Int)),(33,.own 33)],[(3,.box (tmE t) 61),(33,.row tmE ([]) 61 2)]⟩) (ym) ?_);refine yz.imp (zL rfl rfl rfl SlK.h TiK.h (by decide) (by decide) (λ_=>rfl) (λ_=>rfl) (by first|omega|(simp;done)|(simp;omega)|(simp_all;omega)) rfl) (ym)
   ·obtain rfl:(7,[2,1,5,3,0,6,4])=c:=by injection U
    refine yp rfl (yn (st0:=⟨[(34,tmsA l),(35,iv (k:Int)),(36,tmsA (l.take (k:Int).toNat)),(38,tmA t),(39,tmsA [t]),(41,.ifb (β 8) (tmsA l)),(42,.ifb (β 9) (iv (k:Int))),(43,.ifb (β 10) (tmsA (l.drop (k:Int).toNat))),(0,tmsA l),(3,.ptr 3 0 0 0),(5,iv (k:Int)),(37,.own 33)],[(3,.box (tmE t) 61),(33,.row tmE ([]++l.take (k:Int).toNat) 61 2)]⟩) (ym) ?_);refine yz.imp (zL rfl rfl rfl SlK.h TiK.h (by decide) (by decide) (λ_=>rfl) (λ_=>rfl) (by first|omega|(simp;done)|(simp;omega)|(simp_all;omega)) rfl) (ym)
   ·obtain rfl:(11,[2,1,5,3,0,9,8,6,4,10,7])=c:=by injection U
    refine yp rfl (yn (st0:=⟨[(34,tmsA l),(35,iv (k:Int)),(36,tmsA (l.take (k:Int).toNat)),(38,tmA t),(39,tmsA [t]),(41,tmsA l),(42,iv (k:Int)),(43,tmsA (l.drop (k:Int).toNat)),(0,tmsA l),(3,.ptr 3 0 0 0),(5,iv (k:Int)),(40,.own 33)],[(3,.box (tmE t) 61),(33,.row tmE ([]++l.take (k:Int).toNat++[t]) 61 2)]⟩) (ym) ?_);refine yz.imp (zL rfl rfl rfl SlK.h TiK.h (by decide) (by decide) (λ_=>rfl) (λ_=>rfl) (by first|omega|(simp;done)|(simp;omega)|(simp_all;omega)) rfl) (ym)
   ·obtain rfl:(12,[10,9,8,7,6,5,4,3,2,1,0,11])=c:=by injection U
    refine yp rfl (yn (st0:=⟨[(34,tmsA l),(35,iv (k:Int)),(36,tmsA (l.take (k:Int).toNat)),(38,tmA t),(39,tmsA [t]),(41,tmsA l),(42,iv (k:Int)),(43,tmsA (l.drop (k:Int).toNat)),(0,tmsA l),(3,.ptr 3 0 0 0),(5,iv (k:Int)),(44,.own 33)],[(3,.box (tmE t) 61),(33,.row tmE ([]++l.take (k:Int).toNat++[t]++l.drop (k:Int).toNat) 61 2)]⟩) (ym) ?_);refine yz.imp (yL (kK (zcf rfl)) rfl rfl) (ym)
   ·exact absurd U (by simp)
  refine kQ ?_;refine kM (kL (k:=33) rfl) ?_;refine gq ?_;all_goals exact j9 tmsA E
end
section
def rlO(f:Tm->List Tm)(g:Nat->Tm):Nat->List Tm
 |0=>[]
 |j+1=>(f (g j)).foldl insT (rlO f g j)
def rlM(m:Mn)(v k:Int):Int:=if m.p k=3 then(if k=v then 1 else 2)else 0
def rlG(m:Mn)(v k:Int)(t:Tm)(j:Nat):Bool:=decide ((j:Int)<=rlM m v k)&&decide (0<(lsT m k t j).N)
def rlK(m:Mn)(k:Int)(t:Tm)(j:Nat):Bool:=decide (cmpV (yw m (k+1)) (lsT m k t j)<0)
def rlN(m:Mn)(v k:Int)(t:Tm):Nat->Nat->Nat
 |0,j=>j
 |f+1,j=>if rlG m v k t j=true then(if rlK m k t j=true then rlN m v k t f (j+1)else j+1)else j
def rlL(m:Mn)(v:Int):Nat->Int->Tm->List Tm
 |0,k,t=>[t]
 |n+1,k,t=>rlO (rlL m v n (k+1)) (lsT m k t) (rlN m v k t 3 0)
def zx8(m:Mn)(v k:Int):0<=rlM m v k/\rlM m v k<=2:=by
 unfold rlM;split
 ·split<;>omega
 ·omega
def zwi{m:Mn}{v k:Int}{t:Tm}:∀(j i f:Nat),i+f=3->i<=j->(∀q,q<j->rlG m v k t q=true/\rlK m k t q=true)->rlG m v k t j=false->j<=3->rlN m v k t f i=j
 |j,i,0,h,h1,Z,V,U=>by unfold rlN;omega
 |j,i,f+1,h,h1,Z,V,U=>by
  unfold rlN;rcases wD i j with hl|hl
  ·rw[j6 (Z i hl).1,j6 (Z i hl).2];exact zwi j (i+1) f (by omega) (by omega) Z V U
  ·have:i=j:=by omega
   subst this;rw[j7 (by rw[V];simp)]
def zwj{m:Mn}{v k:Int}{t:Tm}:∀(j i f:Nat),i+f=3->i<=j->(∀q,q<j->rlG m v k t q=true/\rlK m k t q=true)->rlG m v k t j=true->rlK m k t j=false->j<=2->rlN m v k t f i=j+1
 |j,i,0,h,h1,Z,V,U,T=>by omega
 |j,i,f+1,h,h1,Z,V,U,T=>by
  unfold rlN;rcases wD i j with hl|hl
  ·rw[j6 (Z i hl).1,j6 (Z i hl).2];exact zwj j (i+1) f (by omega) (by omega) Z V U T
  ·have:i=j:=by omega
   subst this;rw[j6 V,j7 (by rw[U];simp)]
def zho:∀(l out:List Tm),(l.foldl insT out).length<=out.length+l.length
 |[],out=>by simp
 |t::r,out=>by
  have h1:=zho r (insT out t);have Z:=zrq out t;simp only[xB,w8];omega
def zlx{f:Tm->List Tm}{g:Nat->Tm}{B:Nat}(h:∀t,(f t).length<=B):∀j,(rlO f g j).length<=j*B
 |0=>by simp[rlO]
 |j+1=>by
  have h1:=zlx (g:=g) h j;have Z:=zho (f (g j)) (rlO f g j);have V:=h (g j);have U:(j+1)*B=j*B+B:=xO ..;unfold rlO;omega
def zrr(m:Mn)(v k:Int)(t:Tm):∀f j,rlN m v k t f j<=j+f
 |0,j=>jE _
 |f+1,j=>by
  have:=zrr m v k t f (j+1);unfold rlN;split
  ·split<;>omega
  ·omega
def zid(m:Mn)(v:Int):∀n k t,(rlL m v n k t).length<=3^n
 |0,k,t=>by simp[rlL]
 |n+1,k,t=>by
  have h1:=zlx (g:=lsT m k t) (zid m v n (k+1)) (rlN m v k t 3 0);have Z:=zrr m v k t 3 0;have V:3^(n+1)=3*3^n:=by rw[kA,u9]
  have U:rlN m v k t 3 0*3^n<=3*3^n:=jX _ (by omega);unfold rlL;omega
def zp7{l out:List Tm}{i:Nat}{u:Tm}(h:l[i]? =some u):insT ((l.take i).foldl insT out) u=(l.take (i+1)).foldl insT out:=by
 rw[jG,h,List.foldl_append];rfl
attribute [local irreducible] cmpV subV yw insT rlN rlL
def zf3(m:Mn)(hm:ckM m=0)(v:Int)(h1:1<=v)(n:Nat)(k:Int)(t:Tm)(hn:(5-k).toNat=n)(v9:1<=k)(v8:k<=8):Fn prog 146 [mnA m,iv v,iv k,tmA t] (tmsA (rlL m v n k t)):=by
 induction n using Nat.strongRecOn generalizing k t
 rename_i n ih;refine kR func146 ntmps146 (λg w d=>?_);refine gd ?_ ?_<;>intro v5
 ·have x3:n=0:=by omega
  subst x3;have hV:[t]=rlL m v 0 k t:=by unfold rlL;rfl
  refine gq ?_;refine yD tmE [t] ?_;refine yj ?_;refine kQ ?_;refine kM (kL (k:=19) rfl) ?_;refine gq ?_;all_goals(first|exact j9 tmsA hV|rfl)
 obtain⟨q,rfl⟩:∃q,n=q+1:=⟨n-1,by omega⟩;have v4:=zx8 m v k;apply yk;apply ye;refine yj ?_;refine zF ⟨[(1,iv v),(2,iv k),(4,.ptr 4 0 0 0),(7,.ptr 7 0 0 0),(9,iv (rlM m v k))],[(4,.box (mnE m) 27),(7,.box (tmE t) 61)]⟩ (λU=>?_) ?_
 ·refine gc (yX m k) ?_;refine gd ?_ ?_<;>intro T
  ·have E:(0:Int)=rlM m v k:=by unfold rlM;rw[j7 T]
   apply yf;refine yj ?_;exact kT yg U
  ·refine gd ?_ ?_<;>intro xT
   ·have E:(1:Int)=rlM m v k:=by unfold rlM;rw[j6 (by simpa using T),j6 xT]
    apply yf;refine yj ?_;exact kT yg U
   ·have E:(2:Int)=rlM m v k:=by unfold rlM;rw[j6 (by simpa using T),j7 xT]
    apply yk;exact kT yg U
 refine gq ?_;refine yR (zy hm (by omega) (by omega):Fn _ _ [mnA m,iv (k+1)] _) ?_;iterate 3 refine ya ?_
 refine za ?_;refine kV ?_;refine ya ?_;apply yE;refine yj ?_;apply yh;apply ye;refine yj ?_;apply kP;have v3:[]=rlO (rlL m v q (k+1)) (lsT m k t) 0:=rfl;refine zW (λj=>[(1,iv v),(2,iv k),(4,.ptr 4 0 0 0),(7,.ptr 7 0 0 0),(9,iv (rlM m v k)),(10,.ptr 10 0 0 0),(12,tmsA (rlO (rlL m v q (k+1)) (lsT m k t) j)),(13,iv (j:Int))]) (λj=>[(4,.box (mnE m) 27),(7,.box (tmE (lsT m k t j)) 61),(10,.box (tmE (yw m (k+1))) 61)]) (λj=>j<=3/\∀q,q<j->rlG m v k t q=true/\rlK m k t q=true) 3 (λj hk=>?_) (hJ:=by exact⟨by omega,λq h=>absurd h (u0 q)⟩);obtain⟨x4,hJ⟩:=hk;have v2:=zlx (g:=lsT m k t) (zid m v q (k+1)) j;apply yh;apply ye;iterate 3 refine ya ?_
 refine kU 3 ?_;refine yo ?_;iterate 3 refine kS ?_
 refine gf ?_ ?_<;>intro J
 ·have V:rlG m v k t j=true:=by unfold rlG;rw[jJ J.1,jJ J.2];rfl
  have x2:j<=2:=by omega
  refine gq ?_;refine yR (ih q (by omega) (k+1) (lsT m k t j) (by omega) (by omega) (by omega)) ?_;refine yj ?_;apply yh;apply ye;refine yj ?_;apply kP;obtain⟨D,hD⟩:∃D,D=rlL m v q (k+1) (lsT m k t j):=⟨_,rfl⟩;have x1:=zid m v q (k+1) (lsT m k t j);have v1:3^q<=3^3:=vA (by decide) (by omega);have v0:3^3=27:=rfl;have u4:j*3^q<=3*3^q:=jX _ x4;rw[←hD]at x1;have u3:=hD.symm;have w2:rlO (rlL m v q (k+1)) (lsT m k t) j=(D.take 0).foldl insT (rlO (rlL m v q (k+1)) (lsT m k t) j):=by rw[vY];rfl
  refine zm (λi=>[(1,iv v),(2,iv k),(4,.ptr 4 0 0 0),(7,.ptr 7 0 0 0),(9,iv (rlM m v k)),(10,.ptr 10 0 0 0),(12,tmsA ((D.take i).foldl insT (rlO (rlL m v q (k+1)) (lsT m k t) j))),(13,iv (j:Int)),(14,tmsA D),(15,iv (i:Int))]) (λi=>[(4,.box (mnE m) 27),(7,.box (tmE (lsT m k t j)) 61),(10,.box (tmE (yw m (k+1))) 61)]) D.length (λi hk=>?_);refine gd ?_ ?_<;>intro u2
  ·have x0:=@getX _ D i (by omega);obtain⟨u,hu,u1⟩:=x0;have H:=zp7 (out:=rlO (rlL m v q (k+1)) (lsT m k t) j) hu;have k9:=zho (D.take i) (rlO (rlL m v q (k+1)) (lsT m k t) j);have k8:(D.take i).length<=D.length:=by rw[jO];omega
   refine gc (zex ((D.take i).foldl insT (rlO (rlL m v q (k+1)) (lsT m k t) j)) u (by omega)) ?_;refine yu (i+1) (hI:=yg)
  ·have w9:i=D.length:=by omega
   subst w9;have H:(D.take D.length).foldl insT (rlO (rlL m v q (k+1)) (lsT m k t) j)=rlO (rlL m v q (k+1)) (lsT m k t) (j+1):=by rw[jK,hD];rfl
   refine gc (zcP (yw m (k+1)) (lsT m k t j)) ?_;refine gd ?_ ?_<;>intro k7
   ·have G:rlK m k t j=false:=by unfold rlK;rw[jH (by omega)]
    have Z:rlO (rlL m v q (k+1)) (lsT m k t) (j+1)=rlL m v (q+1) k t:=by
     conv=>rhs;unfold rlL
     rw[zwj j 0 3 rfl (wK _) hJ V G x2]
    refine gq ?_;all_goals(first|exact j9 tmsA Z|exact j9 tmsA (H.trans Z))
   have G:rlK m k t j=true:=by unfold rlK;rw[jJ (by omega)]
   refine gc (zae (lsT m k t j) (yw m (k+1))) ?_
   refine yu (j+1) (hJ:=by
    refine⟨by omega,λq h=>?_⟩;rcases wG.1 h with h|h
    ·exact hJ q h
    ·subst h;exact⟨V,G⟩) (hI:=yg)
 ·have V:rlG m v k t j=false:=by
   unfold rlG;rcases J with h|h
   ·rw[jH (by omega)];rfl
   ·rw[jH (show¬0<(lsT m k t j).N by omega)];simp
  have Z:rlO (rlL m v q (k+1)) (lsT m k t) j=rlL m v (q+1) k t:=by
   conv=>rhs;unfold rlL
   rw[zwi j 0 3 rfl (wK _) hJ V x4]
  refine gq ?_;all_goals(first|exact j9 tmsA Z|exact j9 tmsA (H.trans Z))
end
section
def mdL(m:Mn)(v y:Int):List Tm:=
 if y=1\/y=8 then[yw m v]
 else if y=2 then(if m.p v=2 then[tmkT ((yw m v).N*3) ((yw m v).D*2)]else[])
 else if y=3 then(rlL m v (5-v).toNat v (yw m v)).filter λx=>!decide (x=yw m v)
 else if y=4 then(if(2<=v/\v<=5)/\m.p (v-1)=3 then[tmkT ((yw m v).N*2) ((yw m v).D*1)]else[])
 else if y=5 then[durT m v]
 else if y=6 then[tmkT ((durT m v).N*3) ((durT m v).D*2)]
 else if y=7 then(if m.p 4=2/\v=4 then[⟨3,2⟩]else if m.p 4=2/\v=5 then[⟨1,2⟩]else[])
 else[]
def duB(m:Mn)(v:Int):Bool:=decide (0<=(durT m v).N)&&decide ((durT m v).N<=1000)&&decide (0<=(durT m v).D)&&decide ((durT m v).D<=1000)
def ztV:zdc duB=true:=by kernel_rfl
def zAP{m:Mn}{v:Int}(hm:ckM m=0)(h1:1<=v)(Z:v<=8):0<=(durT m v).N/\(durT m v).N<=1000/\0<=(durT m v).D/\(durT m v).D<=1000:=by
 have h:=zab ztV hm h1 Z;unfold duB at h;simp only[jA,w4]at h;exact⟨h.1.1.1,h.1.1.2,h.1.2,h.2⟩
def zrs{L:List Tm}{F u:Tm}{k:Nat}(h:L[k]? =some u):(L.take (k+1)).filter (λx=>!decide (x=F))=(L.take k).filter (λx=>!decide (x=F))++(if u=F then[]else[u]):=by
 rw[jG,h,uF];by_cases e:u=F<;>simp[e]
attribute [local irreducible] cmpV subV yw insT rlN rlL tmkT durT mdL
def zf4(m:Mn)(hm:ckM m=0)(s:Sp)(V:1<=s.Value)(U:s.Value<=8)(k9:1<=s.Way)(k8:s.Way<=8):Fn prog 93 [mnA m,spA s] (tmsA (mdL m s.Value s.Way)):=by
 have hF:=zA4 hm V U;have k7:=hF.n;have k6:=hF.n1;have k5:=hF.d;have k4:=(zM hF.ck).2.2.2.2.1;obtain⟨k3,j4,j3,j2⟩:=zAP hm V U;have J:=zgs m s.Value;rw[znt hm V U,j6 rfl]at J;obtain⟨D,hD⟩:∃D,D=rlL m s.Value (5-s.Value).toNat s.Value (yw m s.Value):=⟨_,rfl⟩;have G:=zf3 m hm s.Value V (5-s.Value).toNat s.Value (yw m s.Value) rfl V U;rw[←hD]at G;have v4:=zid m s.Value (5-s.Value).toNat s.Value (yw m s.Value);rw[←hD]at v4;have j1:3^(5-s.Value).toNat<=3^4:=vA (by decide) (by omega);have j0:3^4=81:=rfl;refine kR func93 ntmps93 (λg w d=>?_);refine gc (zy hm V U) ?_;refine yR J ?_;iterate 3 refine ya ?_
 refine za ?_;refine kV ?_;refine yj ?_;apply yh;apply ye;refine yQ ?_;apply kP;refine zF ⟨[(2,.ptr 2 0 0 0),(5,iv s.Value),(6,.ptr 6 0 0 0),(8,.ptr 8 0 0 0),(28,iv s.Way),(29,.bool (decide (s.Way=1\/s.Way=8)))],[(2,.box (mnE m) 27),(6,.box (tmE (yw m s.Value)) 61),(8,.box (tmE (durT m s.Value)) 61)]⟩ (λE=>?_) ?_
 ·refine gd ?_ ?_<;>intro xT
  ·have hb:decide (s.Way=1)=decide (s.Way=1\/s.Way=8):=by simp[xT]
   apply yk;exact kT yg E
  ·have hb:decide (s.Way=8)=decide (s.Way=1\/s.Way=8):=by simp[xT]
   apply yf;refine yQ ?_;exact kT yg E
 refine zzc rfl ?_ ?_<;>intro v3
 ·have Z:[yw m s.Value]=mdL m s.Value s.Way:=by unfold mdL;rw[j6 v3]
  refine gq ?_;refine yD tmE [yw m s.Value] ?_;refine yj ?_;refine kQ ?_;refine kM (kL (k:=33) rfl) ?_;refine gq ?_;all_goals(first|exact j9 tmsA Z|rfl)
 refine gd ?_ ?_<;>intro v2
 ·have x4:s.Way=2:=v2;refine gc (yX m s.Value) ?_;refine gd ?_ ?_<;>intro x3
  ·have Z:[tmkT ((yw m s.Value).N*3) ((yw m s.Value).D*2)]=mdL m s.Value s.Way:=by unfold mdL;rw[j7 (by omega),j6 x4,j6 x3]
   refine gc (zaQ (yw m s.Value) 3 2 (by omega) (by omega)) ?_;all_goals exact j9 tmsA Z
  have Z:[]=mdL m s.Value s.Way:=by unfold mdL;rw[j7 (by omega),j6 x4,j7 x3]
  apply yk;apply ye;refine yj ?_;refine kQ ?_;refine kM (yd (ts:=[(4,tmsA [])]) (hs:=[])) ?_;refine gq ?_;all_goals(first|exact j9 tmsA Z|rfl)
 ·refine gd ?_ ?_<;>intro v1
  ·have v0:s.Way=3:=v1;apply ye;refine yj ?_;apply yh;refine kT (yG tmE 61 2 10 10 rfl rfl) ?_;refine gq ?_;refine yR G ?_;refine yj ?_;apply yh;apply ye;refine yj ?_;apply kP;have hZ:[]=(D.take 0).filter (λx=>!decide (x=yw m s.Value)):=by simp
   refine zm (λk=>[(6,.ptr 6 0 0 0),(10,.own 10),(11,tmsA D),(12,iv (k:Int))]) (λk=>[(6,.box (tmE (yw m s.Value)) 61),(10,.row tmE ((D.take k).filter (λx=>!decide (x=yw m s.Value))) 61 2)]) D.length (λk hk=>?_);refine gd ?_ ?_<;>intro hY
   ·have u4:=@getX _ D k (by omega);obtain⟨u,hu,hX⟩:=u4;have T:=zrs (F:=yw m s.Value) hu;have hW:=wZ (λx=>!decide (x=yw m s.Value)) (D.take k);have hU:(D.take k).length<=D.length:=by rw[jO];omega
    refine gq ?_;refine yW [55,56,57,58,59,60] [0,0,3,7,0,31] mo ?_;(iterate 6 refine yb ?_);refine yI ?_;refine gd ?_ ?_<;>intro x2
    ·rw[j7 x2]at T;have x1:=T.symm;refine gq ?_;refine yD tmE [u] ?_;refine gq ?_;refine yu (k+1) (hI:=yg)
    ·rw[j6 x2,wO]at T;have x1:=T.symm;refine gq ?_;refine yu (k+1) (hI:=yg)
   ·have u3:k=D.length:=by omega
    subst u3;have Z:(D.take D.length).filter (λx=>!decide (x=yw m s.Value))=mdL m s.Value s.Way:=by unfold mdL;rw[j7 (by omega),j7 (by omega),j6 v0,jK,hD]
    apply bA;apply ye;refine yQ ?_;refine kQ ?_;refine kM (kL (k:=10) rfl) ?_;refine gq ?_;all_goals(first|exact j9 tmsA Z|rfl)
  refine gd ?_ ?_<;>intro u2
  ·have x0:s.Way=4:=u2;apply ye;(iterate 2 refine ya ?_);refine kU 2 ?_;refine gq ?_;refine bJ (yX m (s.Value-1)) ?_;refine kS ?_;refine gf ?_ ?_<;>intro u1
   ·have Z:[tmkT ((yw m s.Value).N*2) ((yw m s.Value).D*1)]=mdL m s.Value s.Way:=by unfold mdL;rw[j7 (by omega),j7 (by omega),j7 (by omega),j6 x0,j6 u1]
    refine gc (zaQ (yw m s.Value) 2 1 (by omega) (by omega)) ?_;all_goals exact j9 tmsA Z
   have Z:[]=mdL m s.Value s.Way:=by unfold mdL;rw[j7 (by omega),j7 (by omega),j7 (by omega),j6 x0,j7 (by omega)]
   apply yk;apply ye;refine yj ?_;refine kQ ?_;refine kM (yd (ts:=[(4,tmsA [])]) (hs:=[])) ?_;refine gq ?_;all_goals(first|exact j9 tmsA Z|rfl)
  ·refine gd ?_ ?_<;>intro w9
   ·have Z:[durT m s.Value]=mdL m s.Value s.Way:=by unfold mdL;rw[j7 (by omega),j7 (by omega),j7 (by omega),j7 (by omega),j6 w9]
    refine gq ?_;refine yD tmE [durT m s.Value] ?_;refine yj ?_;refine kQ ?_;refine kM (kL (k:=89) rfl) ?_;refine gq ?_;all_goals(first|exact j9 tmsA Z|rfl)
   refine gd ?_ ?_<;>intro w2
   ·have Z:[tmkT ((durT m s.Value).N*3) ((durT m s.Value).D*2)]=mdL m s.Value s.Way:=by unfold mdL;rw[j7 (by omega),j7 (by omega),j7 (by omega),j7 (by omega),j7 (by omega),j6 w2]
    refine gc (zaQ (durT m s.Value) 3 2 (by omega) (by omega)) ?_;all_goals exact j9 tmsA Z
   refine gd ?_ ?_<;>intro v9
   ·have H:s.Way=7:=v9;refine gq ?_;refine yR (yX m 4) ?_;refine ya ?_;refine kU 3 ?_;refine yo ?_;(iterate 2 refine kS ?_);refine gf ?_ ?_<;>intro v8
    ·have Z:[⟨3,2⟩]=mdL m s.Value s.Way:=by unfold mdL;rw[j7 (by omega),j7 (by omega),j7 (by omega),j7 (by omega),j7 (by omega),j7 (by omega),j6 H,j6 v8]
     refine gq ?_;refine yD tmE [⟨3,2⟩] ?_;refine yj ?_;refine kQ ?_;refine kM (kL (k:=104) rfl) ?_;refine gq ?_;all_goals(first|exact j9 tmsA Z|rfl)
    refine gq ?_;refine yR (yX m 4) ?_;refine ya ?_;refine kU 3 ?_;refine yo ?_;(iterate 2 refine kS ?_);refine gf ?_ ?_<;>intro v5
    ·have Z:[⟨1,2⟩]=mdL m s.Value s.Way:=by unfold mdL;rw[j7 (by omega),j7 (by omega),j7 (by omega),j7 (by omega),j7 (by omega),j7 (by omega),j6 H,j7 (by omega),j6 v5]
     refine gq ?_;refine yD tmE [⟨1,2⟩] ?_;refine yj ?_;refine kQ ?_;refine kM (kL (k:=113) rfl) ?_;refine gq ?_;all_goals(first|exact j9 tmsA Z|rfl)
    have Z:[]=mdL m s.Value s.Way:=by unfold mdL;rw[j7 (by omega),j7 (by omega),j7 (by omega),j7 (by omega),j7 (by omega),j7 (by omega),j6 H,j7 (by omega),j7 (by omega)]
    apply yk;apply ye;refine yj ?_;refine kQ ?_;refine kM (yd (ts:=[(4,tmsA [])]) (hs:=[])) ?_;refine gq ?_;all_goals(first|exact j9 tmsA Z|rfl)
   ·omega
end
section
def mdB(m:Mn)(v:Int):Bool:=(List.range 8).all λi=>zwz (wdL m v (1+i)) (mdL m v (1+(i:Int)))&&decide ((mdL m v (1+(i:Int))).length<=81)
def ztW:zdc mdB=true:=by kernel_rfl
def zx9{m:Mn}{v:Int}(hm:ckM m=0)(h1:1<=v)(V:v<=8){i:Nat}(hi:i<8):(∀x,x∈mdL m v (1+(i:Int))↔x∈wdL m v (1+(i:Int)).toNat)/\(mdL m v (1+(i:Int))).Pairwise ltT/\(mdL m v (1+(i:Int))).length<=81:=by
 have h:=jF.1 (show(List.range 8).all _=true from zab ztW hm h1 V) i (uR.2 hi);rw[jA]at h;have Z:=h.1;unfold zwz at Z;simp only[jA,jF,w4]at Z;rw[show(1+(i:Int)).toNat=1+i by omega];exact⟨λx=>⟨Z.1.2 x,λhx=>(Z.1.1 x hx).2⟩,Z.2,of_decide_eq_true h.2⟩
attribute [local irreducible] cmpV subV yw insT rlN rlL tmkT durT mdL wdL alO alI allE bthE zcT
def zgJ(m:Mn)(t:Tm):Fn prog 57 [mnA m,tmA t] (.tup [spsA (allE m t),iv (bthE m t)]):=by
 refine kR func57 ntmps57 (λg w d=>?_);refine gc (zf2 m t) ?_;refine gd ?_ ?_<;>intro Z
 ·have G:[]=allE m t:=by unfold allE;rw[j7 Z]
  apply ye;refine yC ?_;refine kQ ?_;refine kM (yd (ts:=[(4,spsA []),(5,iv (bthE m t))]) (hs:=[])) ?_;refine yl ?_ ?_;all_goals(first|exact j9 spsA G|rfl|exact j9 (AV.int .i64) Z.symm)
 apply yk;apply ye;refine yj ?_;iterate 2 apply yh
 refine kT (yG spE 116 5 7 7 rfl rfl) ?_;apply yf;refine yj ?_;apply kP;have x0:[]=alO m t 0:=by unfold alO;rfl
 have T:=(zrT Z).1;refine zm (λj=>[(2,.ptr 2 0 0 0),(3,.ptr 3 0 0 0),(7,.own 7),(8,iv (1+(j:Int)))]) (λj=>[(2,.box (mnE m) 27),(3,.box (tmE t) 61),(7,.row spE (alO m t j) 116 5)]) 8 (λj hk=>?_);refine gd ?_ ?_<;>intro w9
 ·apply yk;apply yh;apply kP;apply ye;refine yj ?_;apply kP;have w2:alO m t j=alO m t j++alI m t (1+(j:Int)) (1+0):=by unfold alI;simp[alI]
  have v9:=zii m t j;refine zm (λi=>[(2,.ptr 2 0 0 0),(3,.ptr 3 0 0 0),(7,.own 7),(8,iv (1+(j:Int))),(9,iv (1+(i:Int)))]) (λi=>[(2,.box (mnE m) 27),(3,.box (tmE t) 61),(7,.row spE (alO m t j++alI m t (1+(j:Int)) (1+i)) 116 5)]) 8 (λi hk=>?_);refine gd ?_ ?_<;>intro v8
  ·obtain⟨N,J,E⟩:=zx9 T (v:=1+(j:Int)) (by omega) (by omega) (i:=i) (by omega);have V:=zf4 m T (spOf (1+(j:Int)) (1+(i:Int))) (by show 1<=1+(j:Int);omega) (by show 1+(j:Int)<=8;omega) (by show 1<=1+(i:Int);omega) (by show 1+(i:Int)<=8;omega);rw[show mdL m (spOf (1+(j:Int)) (1+(i:Int))).Value (spOf (1+(j:Int)) (1+(i:Int))).Way=mdL m (1+(j:Int)) (1+(i:Int))from rfl]at V;generalize mdL m (1+(j:Int)) (1+(i:Int))=D at V N J E;refine gq ?_;refine yW [10,26,27,28,29,30] [0,0,0,6,15,31] mo ?_;(iterate 3 refine yb ?_);refine yO (zcO (1+(j:Int)) (1+(i:Int))) ?_;refine yO V ?_;refine yb ?_;refine yI ?_;apply yE;refine yj ?_;apply kP;have v5:=zyw (alO m t j++alI m t (1+(j:Int)) (1+i)) (spOf (1+(j:Int)) (1+(i:Int))) t D;have v4:=zih m t (1+(j:Int)) (1+i);refine zm (λq=>[(2,.ptr 2 0 0 0),(3,.ptr 3 0 0 0),(7,.own 7),(8,iv (1+(j:Int))),(9,iv (1+(i:Int))),(10,tmsA D),(11,iv (q:Int))]) (λq=>[(2,.box (mnE m) 27),(3,.box (tmE t) 61),(7,.row spE (zcT (alO m t j++alI m t (1+(j:Int)) (1+i)) (spOf (1+(j:Int)) (1+(i:Int))) t D q) 116 5)]) D.length (λq hk=>?_);refine gd ?_ ?_<;>intro v3
   ·have xT:=@getX _ D q (by omega);obtain⟨u,hu,v2⟩:=xT;have x4:=zrR (alO m t j++alI m t (1+(j:Int)) (1+i)) (spOf (1+(j:Int)) (1+(i:Int))) t D q;rw[jC]at x4;refine gq ?_;refine yW [37,38,39,40,41,42] [0,0,3,7,0,31] mo ?_;(iterate 6 refine yb ?_);refine yI ?_;refine gd ?_ ?_<;>intro H
    ·have U:=zrQ (X:=alO m t j++alI m t (1+(j:Int)) (1+i)) (s:=(spOf (1+(j:Int)) (1+(i:Int)))) hu H J;refine gq ?_;refine yR (zcO (1+(j:Int)) (1+(i:Int))) ?_;refine yD spE [spOf (1+(j:Int)) (1+(i:Int))] ?_;refine gq ?_;refine yu (q+1) (hI:=yg)
    ·have U:=zua (X:=alO m t j++alI m t (1+(j:Int)) (1+i)) (s:=(spOf (1+(j:Int)) (1+(i:Int)))) hu H;refine gq ?_;refine yu (q+1) (hI:=yg)
   ·have x3:q=D.length:=by omega
    subst x3;have U:=zrS (t:=t) N (alO m t j);refine gq ?_;refine yu (i+1) (hI:=yg)
  ·have x2:i=8:=by omega
   subst x2;have U:alO m t j++alI m t (1+(j:Int)) (1+8)=alO m t (j+1):=by conv=>rhs;unfold alO
   refine gq ?_;refine yu (j+1) (hI:=yg)
 ·have x1:j=8:=by omega
  subst x1;have G:alO m t 8=allE m t:=by unfold allE;rw[j6 Z]
  apply bA;apply ye;refine yC ?_;refine kQ ?_;refine kM (kL (k:=7) rfl) ?_;refine yl ?_ ?_;all_goals(first|exact j9 spsA G|rfl|exact j9 (AV.int .i64) Z.symm)
end
end Go.Rse
