/-
  Plain.
-/
import Derived.Test.YtbopkhoalndflaaGreatDoorYJKit1
set_option linter.all false
namespace Go.Rse
open Go Go.Proofs Go.Proofs.Tryz
def fE(m:Mn)(v:Int):Int:=(yx m v).N*8/(yx m v).D
def feOk(m:Mn)(v:Int):Bool:=decide ((yx m v).N*8=fE m v*(yx m v).D)&&decide (1<=fE m v)&&decide (fE m v<=648)&&decide (ckT (yx m v)=0)&&decide ((yx m v).D<=8)&&decide ((yx m v).N<=81)&&decide (1<=(yx m v).N)&&
 (decide (v=8)||decide (fE m v=m.p v*fE m (v+1)))&&(decide (¬v=8)||decide (fE m v=1))&&(decide (¬v=1)||decide (128<=fE m v))&&decide (m.p v<=3)
theorem zqD:zer feOk=true:=by kernel_rfl
structure FE(m:Mn)(v:Int):Prop where
 e:(yx m v).N*8=fE m v*(yx m v).D
 b1:1<=fE m v
 b2:fE m v<=648
 ck:ckT (yx m v)=0
 d:(yx m v).D<=8
 n:(yx m v).N<=81
 n1:1<=(yx m v).N
 p:v=8\/fE m v=m.p v*fE m (v+1)
 l:¬v=8\/fE m v=1
 g:¬v=1\/128<=fE m v
 p3:m.p v<=3
def zyT{m:Mn}{v:Int}(hm:ckM m=0)(Z:1<=v)(V:v<=8):FE m v:=by
 grind[zaS,zqD,feOk,FE]
end Go.Rse
namespace Go.Rse
open Go Go.Proofs Go.RowKit Go.Proofs.Tryz
section
variable{P:Program}{C:Ctx}{st:St}{ty:TypeId}
end
attribute [local irreducible] Pur yA yC Ex X Fn Imp LeV LeB FnO It yH
attribute [local irreducible] yx sumE sumV mMk
end Go.Rse
namespace Go.Rse
open Go Go.Proofs Go.Proofs.Tryz
attribute [local irreducible] Pur yA yC Ex X Fn Imp LeV LeB FnO It yH
attribute [local irreducible] yx durT mulV mulE subV subE
end Go.Rse
namespace Go.Rse
end Go.Rse
namespace Go.Rse
open Go Go.Proofs Go.Sort Go.Proofs.Tryz
def ltT(s t:Tm):Prop:=s.N*t.D<t.N*s.D
instance(s t:Tm):Decidable (ltT s t):=inferInstanceAs(Decidable (_<_))
def zsT(s:Tm):¬ltT s s:=by unfold ltT;omega
end Go.Rse
namespace Go.Rse
open Go Go.Proofs Go.Proofs.Tryz
attribute [local irreducible] Pur yA yC Ex X Fn Imp LeV LeB FnO It yH
attribute [local irreducible] yx durT mulV wdL
end Go.Rse
namespace Go.Rse
open Go Go.Proofs Go.RowKit Go.Proofs.Tryz
attribute [local irreducible] Pur yA yC Ex X Fn Imp LeV LeB FnO It yH
def zuT(l L:List Tm):Bool:=(l.all λx=>decide (ckT x=0)&&decide (x∈L))&&(L.all λx=>decide (x∈l))&&decide (L.Pairwise ltT)
attribute [local irreducible] wdL
end Go.Rse
namespace Go.Rse
open Go Go.Proofs Go.RowKit Go.Proofs.Tryz
attribute [local irreducible] Pur yA yC Ex X Fn Imp LeV LeB FnO It yH
def zcO(X:List Sp)(s:Sp)(t:Tm)(L:List Tm)(q:Nat):List Sp:=if t∈L.take q then X++[s]else X
def zwq(X:List Sp)(s:Sp)(t:Tm)(L:List Tm):X=zcO X s t L 0:=by simp[zcO]
def zqE{X:List Sp}{s:Sp}{t:Tm}{L:List Tm}{q:Nat}{u:Tm}(h:L[q]? =some u)(e:u=t)(T:L.Pairwise ltT):zcO X s t L q++[s]=zcO X s t L (q+1):=by
 subst e
 have Q:¬u∈L.take q:=λhm=>by
  obtain⟨i,hi⟩:=jP.1 hm;rw[w4]at hi;split at hi
  ·rename_i Z;have V:=j1.1 hi;have U:=j1.1 h;have:=uZ.1 T i q V.1 U.1 Z;rw[V.2,U.2]at this;exact zsT _ this
  ·simp at hi
 simp_all[zcO,jF]
def zsU{X:List Sp}{s:Sp}{t:Tm}{L:List Tm}{q:Nat}{u:Tm}(h:L[q]? =some u)(e:¬u=t):zcO X s t L q=zcO X s t L (q+1):=by
 grind[zcO,List.take_add_one]
def zqF(X:List Sp)(s:Sp)(t:Tm)(L:List Tm)(q:Nat):(zcO X s t L q).length<=X.length+1:=by
 grind[zcO]
def zqG{m:Mn}{v:Int}{t:Tm}{i:Nat}{L:List Tm}(Z:∀x,x∈L↔x∈wdL m v (1+(i:Int)).toNat)(X:List Sp):zcO (X++alI m t v (1+i)) (spOf v (1+(i:Int))) t L L.length=X++alI m t v (1+(i+1)):=by
 grind[zcO,zns,zmJ]
attribute [local irreducible] yx durT mulV wdL allE bthE alO alI mMk gI zcO
end Go.Rse
namespace Go.Rse
open Go Go.Proofs Go.Proofs.Tryz
attribute [local irreducible] Pur yA yC Ex X Fn Imp LeV LeB FnO It yH
def inA(l:List Tm)(t:Tm):Nat:=l.findIdx λu=>!decide (cmpV u t<0)
def insT(l:List Tm)(t:Tm):List Tm:=if l[inA l t]? =some t then l else l.take (inA l t)++[t]++l.drop (inA l t)
def zwr(l:List Tm)(t:Tm):inA l t<=l.length:=List.findIdx_le_length
def zqH{l:List Tm}{t:Tm}{k:Nat}(h:∀i u,i<k->l[i]? =some u->cmpV u t<0)(Q:k<=l.length)(U:k=l.length\/∃u,l[k]? =some u/\¬cmpV u t<0):inA l t=k:=by
 unfold inA;rcases U with rfl|⟨u,V,N⟩
 ·refine uG.2 λx hx=>?_
  obtain⟨i,hi⟩:=jP.1 hx;have:=h i x (j1.1 hi).1 hi;simp[this]
 ·have Z:=(j1.1 V).1;refine(List.findIdx_eq Z).2 ⟨?_,λj T=>?_⟩
  ·rw[(j1.1 V).2];simp;omega
  ·have:=h j _ T (lgg (by omega));simp[this]
def zqI(l:List Tm)(t:Tm):(insT l t).length<=l.length+1:=by
 have:=zwr l t;unfold insT;split<;>simp<;>omega
attribute [local irreducible] cmpV
def zcP(v y:Int):Fn prog 175 [iv v,iv y] (spA (spOf v y)):=by
 refine kF func175 ntmps175 (λg w d=>?_);apply ye;refine zk ?_;apply yG;iterate 5 refine ya ?_
 refine kI 5 ?_;refine yp ?_;iterate 2 refine kG ?_
 iterate 2 refine yp ?_
 iterate 2 refine kG ?_
 iterate 4 refine yp ?_
 iterate 2 refine kG ?_
 refine ge ?_;refine kL (.one (.cellA rfl rfl rfl rfl zvf (kC ?_)));all_goals rfl
def zcQ(a b:Tm):Fn prog 276 [tmA a,tmA b] (.bool (decide (cmpV a b<0))):=by
 refine kF func276 ntmps276 (λg w d=>?_);refine gc (zbO a b) ?_;all_goals exact zR
def zf1(m:Mn)(t:Tm):Fn prog 173 [mnA m,tmA t] (iv (bthE m t)):=by
 refine kF func173 ntmps173 (λg w d=>?_);refine gc (zn m) ?_;refine gd ?_ ?_<;>intro Z
 ·refine gc (zO t) ?_;all_goals(unfold bthE;rw[j3 Z])
 ·refine gq ?_;all_goals(unfold bthE;rw[j4 Z])
def zaM(t:Tm)(n q:Int)(h:-9223372036854775808<=t.N*n/\t.N*n<=9223372036854775807)(Z:-9223372036854775808<=t.D*q/\t.D*q<=9223372036854775807):Fn prog 229 [tmA t,iv n,iv q] (tmsA [tmkT (t.N*n) (t.D*q)]):=by
 refine kF func229 ntmps229 (λg w d=>?_);refine gc (zcS (t.N*n) (t.D*q) (by omega) (by omega)) ?_;refine yD tmE [tmkT (t.N*n) (t.D*q)] ?_;refine yh ?_;refine kE ?_;refine kA (k9 (k:=22) rfl) ?_;refine gq ?_;all_goals rfl
set_option maxHeartbeats 2000000 in
def zeD(l:List Tm)(t:Tm)(hl:l.length<=100000):Fn prog 275 [tmsA l,tmA t] (tmsA (insT l t)):=by
 refine kF func275 ntmps275 (λg w d=>?_);apply ye;refine zH ?_;refine ya ?_;apply yG;refine yh ?_;apply yf;apply kB;refine zM (λk=>[(0,tmsA l),(3,.ptr 3 0 0 0),(5,iv (k:Int))]) (λk=>[(3,.box (tmE t) 83)]) (λk=>k<=l.length/\∀i u,i<k->l[i]? =some u->cmpV u t<0) l.length (λk G=>?_) (hJ:=by exact⟨by omega,λi u h=>absurd h (wT i)⟩) (h0:=yd);obtain⟨T,Z⟩:=G
 have hv:k<l.length->l[k]? =some (l.getD (k:Int).toNat default):=λh=>by
  rw[wG,j8,lgg h];rfl
 refine gq ?_;refine yW [6,7,8,9,10,11,12,13,14,15,16,17] [0,0,2,7,15,31,31,127,255,31,1023,2047] mo ?_;iterate 5 refine yb ?_
 iterate 5 refine kM ?_
 refine kZ (zcQ (l.getD (k:Int).toNat default) t) ?_;refine yb ?_;refine yF ?_;refine gd ?_ ?_<;>intro Q
 ·refine gq ?_
  refine yz (k+1) (hJ:=by
   refine⟨by omega,λi u hi N=>?_⟩;rcases w6.1 hi with h|h
   ·exact Z i u h N
   ·subst h;rw[hv (by omega)]at N;injection N with N;subst N;exact Q.2)
 ·have J:inA l t=k:=by
   by_cases V:k<l.length
   ·exact zqH Z T (.inr ⟨_,hv V,by rcases Q with h|h;omega;omega⟩)
   ·exact zqH Z T (.inl (by omega))
  refine gq ?_;refine yW [20,21,22,23,24,25,26,27,28,29,30,31] [0,0,2,7,15,31,31,127,255,31,1023,2047] mo ?_;iterate 5 refine yb ?_
  iterate 6 refine kM ?_
  refine yb ?_;refine yF ?_;refine gd ?_ ?_<;>intro I
  ·have H:l=insT l t:=by unfold insT;rw[J,hv (by omega),j3 (by rw[I.2])]
   refine gq ?_;all_goals exact j5 tmsA H
  have H:[]++l.take (k:Int).toNat++[t]++l.drop (k:Int).toNat=insT l t:=by
   unfold insT;rw[J,wG,j4 (λe=>?_)];simp;have V:=(j1.1 e).1;rw[hv V]at e;injection e with e;rcases I with h|h;omega;exact h e
  refine gq ?_;refine kW [⟨1,34,tmsA l,[]⟩,⟨2,35,iv (k:Int),[]⟩,⟨3,36,tmsA (l.take (k:Int).toNat),[2,1]⟩,⟨5,38,tmA t,[]⟩,⟨6,39,tmsA [t],[5]⟩,⟨8,41,tmsA l,[]⟩,⟨9,42,iv (k:Int),[]⟩,⟨10,43,tmsA (l.drop (k:Int).toNat),[9,8]⟩] [(0,[]),(4,[2,1,3,0]),(7,[2,1,5,3,0,6,4]),(11,[2,1,5,3,0,9,8,6,4,10,7]),(12,[10,9,8,7,6,5,4,3,2,1,0,11])] (λj=>match j with|0=>⟨[(0,tmsA l),(3,.ptr 3 0 0 0),(5,iv (k:Int))],[(3,.box (tmE t) 83)]⟩|1=>⟨[(0,tmsA l),(3,.ptr 3 0 0 0),(5,iv (k:Int)),(33,.own 33)],[(3,.box (tmE t) 83),(33,.row tmE ([]) 83 2)]⟩|2=>⟨[(0,tmsA l),(3,.ptr 3 0 0 0),(5,iv (k:Int)),(37,.own 33)],[(3,.box (tmE t) 83),(33,.row tmE ([]++l.take (k:Int).toNat) 83 2)]⟩|3=>⟨[(0,tmsA l),(3,.ptr 3 0 0 0),(5,iv (k:Int)),(40,.own 33)],[(3,.box (tmE t) 83),(33,.row tmE ([]++l.take (k:Int).toNat++[t]) 83 2)]⟩|4=>⟨[(0,tmsA l),(3,.ptr 3 0 0 0),(5,iv (k:Int)),(44,.own 33)],[(3,.box (tmE t) 83),(33,.row tmE ([]++l.take (k:Int).toNat++[t]++l.drop (k:Int).toNat) 83 2)]⟩|_=>⟨[(0,tmsA l),(3,.ptr 3 0 0 0),(5,iv (k:Int)),(4,.own 33)],[(3,.box (tmE t) 83),(33,.row tmE ([]++l.take (k:Int).toNat++[t]++l.drop (k:Int).toNat) 83 2)]⟩) mo (by kernel_rfl) (zg (yd)) (λj E=>?_) (λj c U β hβ=>?_) ?_
  ·rcases j with _|_|_|_|_|_|j
   ·iterate 2 refine⟨.inr ⟨_,rfl,rfl,rfl,rfl,k8 yJ⟩,?_⟩
    first
     |refine⟨.inr ⟨_,rfl,rfl,rfl,rfl,k8 (zcw rfl rfl rfl sl50 ty83 (by omega) (by omega))⟩,?_⟩
     |refine⟨.inr ⟨_,rfl,rfl,rfl,rfl,k8 (zdj rfl rfl sl50 ty83 (λ_=>rfl) (by omega) (by omega))⟩,?_⟩
    refine⟨.inr ⟨_,rfl,rfl,rfl,rfl,k8 yJ⟩,?_⟩;refine⟨.inr ⟨_,rfl,rfl,rfl,rfl,yu (enc:=tmE) (l:=[t]) sl50 ty83 ze83 (by decide) rfl rfl rfl rfl (by decide) (by decide) (λ_=>rfl) rfl⟩,?_⟩;iterate 2 refine⟨.inr ⟨_,rfl,rfl,rfl,rfl,k8 yJ⟩,?_⟩
    first
     |refine⟨.inr ⟨_,rfl,rfl,rfl,rfl,k8 (zf rfl rfl rfl sl50 ty83 (by omega) (by omega))⟩,?_⟩
     |refine⟨.inr ⟨_,rfl,rfl,rfl,rfl,k8 (zp rfl rfl sl50 ty83 (λ_=>rfl) (by omega) (by omega))⟩,?_⟩
    exact True.intro
   ·iterate 2 refine⟨.inr ⟨_,rfl,rfl,rfl,rfl,k8 yJ⟩,?_⟩
    first
     |refine⟨.inr ⟨_,rfl,rfl,rfl,rfl,k8 (zcw rfl rfl rfl sl50 ty83 (by omega) (by omega))⟩,?_⟩
     |refine⟨.inr ⟨_,rfl,rfl,rfl,rfl,k8 (zdj rfl rfl sl50 ty83 (λ_=>rfl) (by omega) (by omega))⟩,?_⟩
    refine⟨.inr ⟨_,rfl,rfl,rfl,rfl,k8 yJ⟩,?_⟩;refine⟨.inr ⟨_,rfl,rfl,rfl,rfl,yu (enc:=tmE) (l:=[t]) sl50 ty83 ze83 (by decide) rfl rfl rfl rfl (by decide) (by decide) (λ_=>rfl) rfl⟩,?_⟩;iterate 2 refine⟨.inr ⟨_,rfl,rfl,rfl,rfl,k8 yJ⟩,?_⟩
    first
     |refine⟨.inr ⟨_,rfl,rfl,rfl,rfl,k8 (zf rfl rfl rfl sl50 ty83 (by omega) (by omega))⟩,?_⟩
     |refine⟨.inr ⟨_,rfl,rfl,rfl,rfl,k8 (zp rfl rfl sl50 ty83 (λ_=>rfl) (by omega) (by omega))⟩,?_⟩
    exact True.intro
   ·(iterate 3 refine⟨.inl rfl,?_⟩);refine⟨.inr ⟨_,rfl,rfl,rfl,rfl,k8 yJ⟩,?_⟩;refine⟨.inr ⟨_,rfl,rfl,rfl,rfl,yu (enc:=tmE) (l:=[t]) sl50 ty83 ze83 (by decide) rfl rfl rfl rfl (by decide) (by decide) (λ_=>rfl) rfl⟩,?_⟩;iterate 2 refine⟨.inr ⟨_,rfl,rfl,rfl,rfl,k8 yJ⟩,?_⟩
    first
     |refine⟨.inr ⟨_,rfl,rfl,rfl,rfl,k8 (zf rfl rfl rfl sl50 ty83 (by omega) (by omega))⟩,?_⟩
     |refine⟨.inr ⟨_,rfl,rfl,rfl,rfl,k8 (zp rfl rfl sl50 ty83 (λ_=>rfl) (by omega) (by omega))⟩,?_⟩
    exact True.intro
   ·(iterate 5 refine⟨.inl rfl,?_⟩);iterate 2 refine⟨.inr ⟨_,rfl,rfl,rfl,rfl,k8 yJ⟩,?_⟩
    first
     |refine⟨.inr ⟨_,rfl,rfl,rfl,rfl,k8 (zf rfl rfl rfl sl50 ty83 (by omega) (by omega))⟩,?_⟩
     |refine⟨.inr ⟨_,rfl,rfl,rfl,rfl,k8 (zp rfl rfl sl50 ty83 (λ_=>rfl) (by omega) (by omega))⟩,?_⟩
    exact True.intro
   ·exact yw
   ·exact yw
   ·exact absurd (show j+6<=5 from E) (by omega)
  ·rcases j with _|_|_|_|_|j
   ·obtain rfl:(0,[])=c:=by injection U
    refine yo rfl (yn (st0:=⟨[(34,.ifb (β 1) (tmsA l)),(35,.ifb (β 2) (iv (k:Int))),(36,.ifb (β 3) (tmsA (l.take (k:Int).toNat))),(38,.ifb (β 5) (tmA t)),(39,.ifb (β 6) (tmsA [t])),(41,.ifb (β 8) (tmsA l)),(42,.ifb (β 9) (iv (k:Int))),(43,.ifb (β 10) (tmsA (l.drop (k:Int).toNat))),(0,tmsA l),(3,.ptr 3 0 0 0),(5,iv (k:Int))],[(3,.box (tmE t) 83)]⟩) (yl) ?_);refine yC.imp (yK (zD (k:=33) (enc:=tmE) (l:=([]:List Tm)) sl50 ty83 ze83 (by decide) rfl rfl rfl rfl (by decide) (by decide) (λ_=>rfl) rfl) rfl rfl) (yl)
   ·obtain rfl:(4,[2,1,3,0])=c:=by injection U
    refine yo rfl (yn (st0:=⟨[(34,tmsA l),(35,iv (k:Int)),(36,tmsA (l.take (k:Int).toNat)),(38,.ifb (β 5) (tmA t)),(39,.ifb (β 6) (tmsA [t])),(41,.ifb (β 8) (tmsA l)),(42,.ifb (β 9) (iv (k:Int))),(43,.ifb (β 10) (tmsA (l.drop (k:Int).toNat))),(0,tmsA l),(3,.ptr 3 0 0 0),(5,iv (k:Int)),(33,.own 33)],[(3,.box (tmE t) 83),(33,.row tmE ([]) 83 2)]⟩) (yl) ?_);refine yC.imp (y6 rfl rfl rfl SlK.h TiK.h (by decide) (by decide) (λ_=>rfl) (λ_=>rfl) (by first|omega|(simp;done)|(simp;omega)|(simp_all;omega)) rfl) (yl)
   ·obtain rfl:(7,[2,1,5,3,0,6,4])=c:=by injection U
    refine yo rfl (yn (st0:=⟨[(34,tmsA l),(35,iv (k:Int)),(36,tmsA (l.take (k:Int).toNat)),(38,tmA t),(39,tmsA [t]),(41,.ifb (β 8) (tmsA l)),(42,.ifb (β 9) (iv (k:Int))),(43,.ifb (β 10) (tmsA (l.drop (k:Int).toNat))),(0,tmsA l),(3,.ptr 3 0 0 0),(5,iv (k:Int)),(37,.own 33)],[(3,.box (tmE t) 83),(33,.row tmE ([]++l.take (k:Int).toNat) 83 2)]⟩) (yl) ?_);refine yC.imp (y6 rfl rfl rfl SlK.h TiK.h (by decide) (by decide) (λ_=>rfl) (λ_=>rfl) (by first|omega|(simp;done)|(simp;omega)|(simp_all;omega)) rfl) (yl)
   ·obtain rfl:(11,[2,1,5,3,0,9,8,6,4,10,7])=c:=by injection U
    refine yo rfl (yn (st0:=⟨[(34,tmsA l),(35,iv (k:Int)),(36,tmsA (l.take (k:Int).toNat)),(38,tmA t),(39,tmsA [t]),(41,tmsA l),(42,iv (k:Int)),(43,tmsA (l.drop (k:Int).toNat)),(0,tmsA l),(3,.ptr 3 0 0 0),(5,iv (k:Int)),(40,.own 33)],[(3,.box (tmE t) 83),(33,.row tmE ([]++l.take (k:Int).toNat++[t]) 83 2)]⟩) (yl) ?_);refine yC.imp (y6 rfl rfl rfl SlK.h TiK.h (by decide) (by decide) (λ_=>rfl) (λ_=>rfl) (by first|omega|(simp;done)|(simp;omega)|(simp_all;omega)) rfl) (yl)
   ·obtain rfl:(12,[10,9,8,7,6,5,4,3,2,1,0,11])=c:=by injection U
    refine yo rfl (yn (st0:=⟨[(34,tmsA l),(35,iv (k:Int)),(36,tmsA (l.take (k:Int).toNat)),(38,tmA t),(39,tmsA [t]),(41,tmsA l),(42,iv (k:Int)),(43,tmsA (l.drop (k:Int).toNat)),(0,tmsA l),(3,.ptr 3 0 0 0),(5,iv (k:Int)),(44,.own 33)],[(3,.box (tmE t) 83),(33,.row tmE ([]++l.take (k:Int).toNat++[t]++l.drop (k:Int).toNat) 83 2)]⟩) (yl) ?_);refine yC.imp (yK (k8 (za6 rfl)) rfl rfl) (yl)
   ·exact absurd U (by simp)
  refine kE ?_;refine kA (k9 (k:=33) rfl) ?_;refine gq ?_;all_goals exact j5 tmsA H
end Go.Rse
namespace Go.Rse
open Go Go.Proofs Go.Proofs.Tryz
attribute [local irreducible] Pur yA yC Ex X Fn Imp LeV LeB FnO It yH
def rlO(f:Tm->List Tm)(g:Nat->Tm):Nat->List Tm
 |0=>[]
 |j+1=>(f (g j)).foldl insT (rlO f g j)
def rlM(m:Mn)(v k:Int):Int:=if m.p k=3 then(if k=v then 1 else 2)else 0
def rlG(m:Mn)(v k:Int)(t:Tm)(j:Nat):Bool:=decide ((j:Int)<=rlM m v k)&&decide (0<(lsT m k t j).N)
def rlK(m:Mn)(k:Int)(t:Tm)(j:Nat):Bool:=decide (cmpV (yx m (k+1)) (lsT m k t j)<0)
def rlN(m:Mn)(v k:Int)(t:Tm):Nat->Nat->Nat
 |0,j=>j
 |f+1,j=>if rlG m v k t j=true then(if rlK m k t j=true then rlN m v k t f (j+1)else j+1)else j
def rlL(m:Mn)(v:Int):Nat->Int->Tm->List Tm
 |0,k,t=>[t]
 |n+1,k,t=>rlO (rlL m v n (k+1)) (lsT m k t) (rlN m v k t 3 0)
def zws(m:Mn)(v k:Int):0<=rlM m v k/\rlM m v k<=2:=by
 unfold rlM;split
 ·split<;>omega
 ·omega
def zuU{m:Mn}{v k:Int}{t:Tm}:∀(j i f:Nat),i+f=3->i<=j->(∀q,q<j->rlG m v k t q=true/\rlK m k t q=true)->rlG m v k t j=false->j<=3->rlN m v k t f i=j
 |j,i,0,h,T,Z,V,U=>by unfold rlN;omega
 |j,i,f+1,h,T,Z,V,U=>by
  unfold rlN;rcases wA i j with hl|hl
  ·rw[j3 (Z i hl).1,j3 (Z i hl).2];exact zuU j (i+1) f (by omega) (by omega) Z V U
  ·have:i=j:=by omega
   subst this;rw[j4 (by rw[V];simp)]
def zuV{m:Mn}{v k:Int}{t:Tm}:∀(j i f:Nat),i+f=3->i<=j->(∀q,q<j->rlG m v k t q=true/\rlK m k t q=true)->rlG m v k t j=true->rlK m k t j=false->j<=2->rlN m v k t f i=j+1
 |j,i,0,h,Q,Z,V,U,T=>by omega
 |j,i,f+1,h,Q,Z,V,U,T=>by
  unfold rlN;rcases wA i j with hl|hl
  ·rw[j3 (Z i hl).1,j3 (Z i hl).2];exact zuV j (i+1) f (by omega) (by omega) Z V U T
  ·have:i=j:=by omega
   subst this;rw[j3 V,j4 (by rw[U];simp)]
def zhd:∀(l out:List Tm),(l.foldl insT out).length<=out.length+l.length
 |[],out=>by simp
 |t::r,out=>by
  have Z:=zhd r (insT out t);have V:=zqI out t;simp only[x5,wH];omega
def zkU{f:Tm->List Tm}{g:Nat->Tm}{B:Nat}(h:∀t,(f t).length<=B):∀j,(rlO f g j).length<=j*B
 |0=>by simp[rlO]
 |j+1=>by
  have Z:=zkU (g:=g) h j;have V:=zhd (f (g j)) (rlO f g j);have U:=h (g j);have T:(j+1)*B=j*B+B:=vL ..;unfold rlO;omega
def zqJ(m:Mn)(v k:Int)(t:Tm):∀f j,rlN m v k t f j<=j+f
 |0,j=>jD _
 |f+1,j=>by
  have:=zqJ m v k t f (j+1);unfold rlN;split
  ·split<;>omega
  ·omega
def zhY(m:Mn)(v:Int):∀n k t,(rlL m v n k t).length<=3^n
 |0,k,t=>by simp[rlL]
 |n+1,k,t=>by
  have Z:=zkU (g:=lsT m k t) (zhY m v n (k+1)) (rlN m v k t 3 0);have V:=zqJ m v k t 3 0;have U:3^(n+1)=3*3^n:=by rw[Nat.pow_succ,wV]
  have T:rlN m v k t 3 0*3^n<=3*3^n:=jT _ (by omega);unfold rlL;omega
def zo6{l out:List Tm}{i:Nat}{u:Tm}(h:l[i]? =some u):insT ((l.take i).foldl insT out) u=(l.take (i+1)).foldl insT out:=by
 rw[jF,h,List.foldl_append];rfl
attribute [local irreducible] cmpV subV yx insT rlN rlL
set_option maxHeartbeats 4000000 in
def zf2(m:Mn)(hm:ckM m=0)(v:Int)(h1:1<=v)(n:Nat)(k:Int)(t:Tm)(hn:(5-k).toNat=n)(x0:1<=k)(w2:k<=8):Fn prog 230 [mnA m,iv v,iv k,tmA t] (tmsA (rlL m v n k t)):=by
 induction n using Nat.strongRecOn generalizing k t
 rename_i n ih;refine kF func230 ntmps230 (λg w d=>?_);refine gd ?_ ?_<;>intro v9
 ·have xT:n=0:=by omega
  subst xT;have hV:[t]=rlL m v 0 k t:=by unfold rlL;rfl
  refine gq ?_;refine yD tmE [t] ?_;refine yh ?_;refine kE ?_;refine kA (k9 (k:=19) rfl) ?_;refine gq ?_;all_goals(first|exact j5 tmsA hV|rfl)
 obtain⟨q,rfl⟩:∃q,n=q+1:=⟨n-1,by omega⟩;have v8:=zws m v k;apply yk;apply ye;refine yh ?_;refine zb1 ⟨[(1,iv v),(2,iv k),(4,.ptr 4 0 0 0),(7,.ptr 7 0 0 0),(9,iv (rlM m v k))],[(4,.box (mnE m) 23),(7,.box (tmE t) 83)]⟩ (λU=>?_) ?_
 ·refine gc (yX m k) ?_;refine gd ?_ ?_<;>intro T
  ·have H:(0:Int)=rlM m v k:=by unfold rlM;rw[j4 T]
   apply yj;refine yh ?_;exact kJ yi U
  ·refine gd ?_ ?_<;>intro G
   ·have H:(1:Int)=rlM m v k:=by unfold rlM;rw[j3 (by simpa using T),j3 G]
    apply yj;refine yh ?_;exact kJ yi U
   ·have H:(2:Int)=rlM m v k:=by unfold rlM;rw[j3 (by simpa using T),j4 G]
    apply yk;exact kJ yi U
 refine gq ?_;refine yP (zy hm (by omega) (by omega):Fn _ _ [mnA m,iv (k+1)] _) ?_;iterate 3 refine ya ?_
 refine zk ?_;refine kK ?_;refine ya ?_;apply yG;refine yh ?_;apply yf;apply ye;refine yh ?_;apply kB;have v5:[]=rlO (rlL m v q (k+1)) (lsT m k t) 0:=rfl;refine zM (λj=>[(1,iv v),(2,iv k),(4,.ptr 4 0 0 0),(7,.ptr 7 0 0 0),(9,iv (rlM m v k)),(10,.ptr 10 0 0 0),(12,tmsA (rlO (rlL m v q (k+1)) (lsT m k t) j)),(13,iv (j:Int))]) (λj=>[(4,.box (mnE m) 23),(7,.box (tmE (lsT m k t j)) 83),(10,.box (tmE (yx m (k+1))) 83)]) (λj=>j<=3/\∀q,q<j->rlG m v k t q=true/\rlK m k t q=true) 3 (λj hk=>?_) (hJ:=by exact⟨by omega,λq h=>absurd h (wT q)⟩);obtain⟨E,hJ⟩:=hk;have v4:=zkU (g:=lsT m k t) (zhY m v q (k+1)) j;apply yf;apply ye;iterate 3 refine ya ?_
 refine kI 3 ?_;refine yp ?_;iterate 3 refine kG ?_
 refine gf ?_ ?_<;>intro Q
 ·have V:rlG m v k t j=true:=by unfold rlG;rw[jJ Q.1,jJ Q.2];rfl
  have x4:j<=2:=by omega
  refine gq ?_;refine yP (ih q (by omega) (k+1) (lsT m k t j) (by omega) (by omega) (by omega)) ?_;refine yh ?_;apply yf;apply ye;refine yh ?_;apply kB;obtain⟨D,hD⟩:∃D,D=rlL m v q (k+1) (lsT m k t j):=⟨_,rfl⟩;have x3:=zhY m v q (k+1) (lsT m k t j);have v3:3^q<=3^3:=vC (by decide) (by omega);have v1:3^3=27:=rfl;have v0:j*3^q<=3*3^q:=jT _ E;rw[←hD]at x3;have u4:=hD.symm;have x1:rlO (rlL m v q (k+1)) (lsT m k t) j=(D.take 0).foldl insT (rlO (rlL m v q (k+1)) (lsT m k t) j):=by rw[vR];rfl
  refine zu (λi=>[(1,iv v),(2,iv k),(4,.ptr 4 0 0 0),(7,.ptr 7 0 0 0),(9,iv (rlM m v k)),(10,.ptr 10 0 0 0),(12,tmsA ((D.take i).foldl insT (rlO (rlL m v q (k+1)) (lsT m k t) j))),(13,iv (j:Int)),(14,tmsA D),(15,iv (i:Int))]) (λi=>[(4,.box (mnE m) 23),(7,.box (tmE (lsT m k t j)) 83),(10,.box (tmE (yx m (k+1))) 83)]) D.length (λi hk=>?_);refine gd ?_ ?_<;>intro u3
  ·obtain⟨u,hu⟩:∃u,D[i]? =some u:=⟨_,lgg (by omega)⟩;have u2:D[(i:Int).toNat]? =some u:=by simpa using hu
   have J:=zo6 (out:=rlO (rlL m v q (k+1)) (lsT m k t) j) hu;have u1:=zhd (D.take i) (rlO (rlL m v q (k+1)) (lsT m k t) j);have k5:(D.take i).length<=D.length:=by rw[jM];omega
   refine gc (zeD ((D.take i).foldl insT (rlO (rlL m v q (k+1)) (lsT m k t) j)) u (by omega)) ?_;refine yz (i+1) (hI:=yi)
  ·have x2:i=D.length:=by omega
   subst x2;have J:(D.take D.length).foldl insT (rlO (rlL m v q (k+1)) (lsT m k t) j)=rlO (rlL m v q (k+1)) (lsT m k t) (j+1):=by rw[jH,hD];rfl
   refine gc (zcQ (yx m (k+1)) (lsT m k t j)) ?_;refine gd ?_ ?_<;>intro k4
   ·have I:rlK m k t j=false:=by unfold rlK;rw[jC (by omega)]
    have Z:rlO (rlL m v q (k+1)) (lsT m k t) (j+1)=rlL m v (q+1) k t:=by
     conv=>rhs;unfold rlL
     rw[zuV j 0 3 rfl (w7 _) hJ V I x4]
    refine gq ?_;all_goals(first|exact j5 tmsA Z|exact j5 tmsA (J.trans Z))
   have I:rlK m k t j=true:=by unfold rlK;rw[jJ (by omega)]
   refine gc (zaa (lsT m k t j) (yx m (k+1))) ?_
   refine yz (j+1) (hJ:=by
    refine⟨by omega,λq h=>?_⟩;rcases w6.1 h with h|h
    ·exact hJ q h
    ·subst h;exact⟨V,I⟩) (hI:=yi)
 ·have V:rlG m v k t j=false:=by
   unfold rlG;rcases Q with h|h
   ·rw[jC (by omega)];rfl
   ·rw[jC (show¬0<(lsT m k t j).N by omega)];simp
  have Z:rlO (rlL m v q (k+1)) (lsT m k t) j=rlL m v (q+1) k t:=by
   conv=>rhs;unfold rlL
   rw[zuU j 0 3 rfl (w7 _) hJ V E]
  refine gq ?_;all_goals(first|exact j5 tmsA Z|exact j5 tmsA (J.trans Z))
end Go.Rse
namespace Go.Rse
open Go Go.Proofs Go.Proofs.Tryz
attribute [local irreducible] Pur yA yC Ex X Fn Imp LeV LeB FnO It yH
def mdL(m:Mn)(v y:Int):List Tm:=
 if y=1\/y=8 then[yx m v]
 else if y=2 then(if m.p v=2 then[tmkT ((yx m v).N*3) ((yx m v).D*2)]else[])
 else if y=3 then(rlL m v (5-v).toNat v (yx m v)).filter λx=>!decide (x=yx m v)
 else if y=4 then(if(2<=v/\v<=5)/\m.p (v-1)=3 then[tmkT ((yx m v).N*2) ((yx m v).D*1)]else[])
 else if y=5 then[durT m v]
 else if y=6 then[tmkT ((durT m v).N*3) ((durT m v).D*2)]
 else if y=7 then(if m.p 4=2/\v=4 then[⟨3,2⟩]else if m.p 4=2/\v=5 then[⟨1,2⟩]else[])
 else[]
def duB(m:Mn)(v:Int):Bool:=decide (0<=(durT m v).N)&&decide ((durT m v).N<=1000)&&decide (0<=(durT m v).D)&&decide ((durT m v).D<=1000)
def zsV:zer duB=true:=by kernel_rfl
def zyU{m:Mn}{v:Int}(hm:ckM m=0)(Z:1<=v)(V:v<=8):0<=(durT m v).N/\(durT m v).N<=1000/\0<=(durT m v).D/\(durT m v).D<=1000:=by
 have h:=zaS zsV hm Z V;unfold duB at h;simp only[j7,w5]at h;exact⟨h.1.1.1,h.1.1.2,h.1.2,h.2⟩
def zqK{L:List Tm}{F u:Tm}{k:Nat}(h:L[k]? =some u):(L.take (k+1)).filter (λx=>!decide (x=F))=(L.take k).filter (λx=>!decide (x=F))++(if u=F then[]else[u]):=by
 rw[jF,h,wX];by_cases e:u=F<;>simp[e]
attribute [local irreducible] cmpV subV yx insT rlN rlL tmkT durT mdL
set_option maxHeartbeats 4000000 in
def zf3(m:Mn)(hm:ckM m=0)(s:Sp)(V:1<=s.Value)(U:s.Value<=8)(u1:1<=s.Way)(k5:s.Way<=8):Fn prog 174 [mnA m,spA s] (tmsA (mdL m s.Value s.Way)):=by
 have hF:=zyT hm V U;have k4:=hF.n;have k3:=hF.n1;have j2:=hF.d;have j0:=(z7 hF.ck).2.2.2.2.1;obtain⟨hZ,hY,hX,hW⟩:=zyU hm V U;have Q:=zgk m s.Value;rw[zmK hm V U,j3 rfl]at Q;obtain⟨D,hD⟩:∃D,D=rlL m s.Value (5-s.Value).toNat s.Value (yx m s.Value):=⟨_,rfl⟩;have I:=zf2 m hm s.Value V (5-s.Value).toNat s.Value (yx m s.Value) rfl V U;rw[←hD]at I;have v5:=zhY m s.Value (5-s.Value).toNat s.Value (yx m s.Value);rw[←hD]at v5;have hU:3^(5-s.Value).toNat<=3^4:=vC (by decide) (by omega);have hT:3^4=81:=rfl;refine kF func174 ntmps174 (λg w d=>?_);refine gc (zy hm V U) ?_;refine yP Q ?_;iterate 3 refine ya ?_
 refine zk ?_;refine kK ?_;refine yh ?_;apply yf;apply ye;refine yO ?_;apply kB;refine zb1 ⟨[(2,.ptr 2 0 0 0),(5,iv s.Value),(6,.ptr 6 0 0 0),(8,.ptr 8 0 0 0),(28,iv s.Way),(29,.bool (decide (s.Way=1\/s.Way=8)))],[(2,.box (mnE m) 23),(6,.box (tmE (yx m s.Value)) 83),(8,.box (tmE (durT m s.Value)) 83)]⟩ (λH=>?_) ?_
 ·refine gd ?_ ?_<;>intro G
  ·have hb:decide (s.Way=1)=decide (s.Way=1\/s.Way=8):=by simp[G]
   apply yk;exact kJ yi H
  ·have hb:decide (s.Way=8)=decide (s.Way=1\/s.Way=8):=by simp[G]
   apply yj;refine yO ?_;exact kJ yi H
 refine zwW rfl ?_ ?_<;>intro v4
 ·have Z:[yx m s.Value]=mdL m s.Value s.Way:=by unfold mdL;rw[j3 v4]
  refine gq ?_;refine yD tmE [yx m s.Value] ?_;refine yh ?_;refine kE ?_;refine kA (k9 (k:=33) rfl) ?_;refine gq ?_;all_goals(first|exact j5 tmsA Z|rfl)
 refine gd ?_ ?_<;>intro v3
 ·have E:s.Way=2:=v3;refine gc (yX m s.Value) ?_;refine gd ?_ ?_<;>intro xT
  ·have Z:[tmkT ((yx m s.Value).N*3) ((yx m s.Value).D*2)]=mdL m s.Value s.Way:=by unfold mdL;rw[j4 (by omega),j3 E,j3 xT]
   refine gc (zaM (yx m s.Value) 3 2 (by omega) (by omega)) ?_;all_goals exact j5 tmsA Z
  have Z:[]=mdL m s.Value s.Way:=by unfold mdL;rw[j4 (by omega),j3 E,j4 xT]
  apply yk;apply ye;refine yh ?_;refine kE ?_;refine kA (yd (ts:=[(4,tmsA [])]) (hs:=[])) ?_;refine gq ?_;all_goals(first|exact j5 tmsA Z|rfl)
 ·refine gd ?_ ?_<;>intro v1
  ·have v0:s.Way=3:=v1;apply ye;refine yh ?_;apply yf;refine kJ (yI tmE 83 2 10 10 rfl rfl) ?_;refine gq ?_;refine yP I ?_;refine yh ?_;apply yf;apply ye;refine yh ?_;apply kB;have hQ:[]=(D.take 0).filter (λx=>!decide (x=yx m s.Value)):=by simp
   refine zu (λk=>[(6,.ptr 6 0 0 0),(10,.own 10),(11,tmsA D),(12,iv (k:Int))]) (λk=>[(6,.box (tmE (yx m s.Value)) 83),(10,.row tmE ((D.take k).filter (λx=>!decide (x=yx m s.Value))) 83 2)]) D.length (λk hk=>?_);refine gd ?_ ?_<;>intro hP
   ·obtain⟨u,hu⟩:∃u,D[k]? =some u:=⟨_,lgg (by omega)⟩;have hM:D[(k:Int).toNat]? =some u:=by simpa using hu
    have T:=zqK (F:=yx m s.Value) hu;have hK:=wS (λx=>!decide (x=yx m s.Value)) (D.take k);have hG:(D.take k).length<=D.length:=by rw[jM];omega
    refine gq ?_;refine yW [55,56,57,58,59,60] [0,0,3,7,0,31] mo ?_;(iterate 6 refine yb ?_);refine yF ?_;refine gd ?_ ?_<;>intro x4
    ·rw[j4 x4]at T;have x3:=T.symm;refine gq ?_;refine yD tmE [u] ?_;refine gq ?_;refine yz (k+1) (hI:=yi)
    ·rw[j3 x4,wC]at T;have x3:=T.symm;refine gq ?_;refine yz (k+1) (hI:=yi)
   ·have u4:k=D.length:=by omega
    subst u4;have Z:(D.take D.length).filter (λx=>!decide (x=yx m s.Value))=mdL m s.Value s.Way:=by unfold mdL;rw[j4 (by omega),j4 (by omega),j3 v0,jH,hD]
    apply kO;apply ye;refine yO ?_;refine kE ?_;refine kA (k9 (k:=10) rfl) ?_;refine gq ?_;all_goals(first|exact j5 tmsA Z|rfl)
  refine gd ?_ ?_<;>intro u3
  ·have x2:s.Way=4:=u3;apply ye;(iterate 2 refine ya ?_);refine kI 2 ?_;refine gq ?_;refine bA (yX m (s.Value-1)) ?_;refine kG ?_;refine gf ?_ ?_<;>intro u2
   ·have Z:[tmkT ((yx m s.Value).N*2) ((yx m s.Value).D*1)]=mdL m s.Value s.Way:=by unfold mdL;rw[j4 (by omega),j4 (by omega),j4 (by omega),j3 x2,j3 u2]
    refine gc (zaM (yx m s.Value) 2 1 (by omega) (by omega)) ?_;all_goals exact j5 tmsA Z
   have Z:[]=mdL m s.Value s.Way:=by unfold mdL;rw[j4 (by omega),j4 (by omega),j4 (by omega),j3 x2,j4 (by omega)]
   apply yk;apply ye;refine yh ?_;refine kE ?_;refine kA (yd (ts:=[(4,tmsA [])]) (hs:=[])) ?_;refine gq ?_;all_goals(first|exact j5 tmsA Z|rfl)
  ·refine gd ?_ ?_<;>intro x1
   ·have Z:[durT m s.Value]=mdL m s.Value s.Way:=by unfold mdL;rw[j4 (by omega),j4 (by omega),j4 (by omega),j4 (by omega),j3 x1]
    refine gq ?_;refine yD tmE [durT m s.Value] ?_;refine yh ?_;refine kE ?_;refine kA (k9 (k:=89) rfl) ?_;refine gq ?_;all_goals(first|exact j5 tmsA Z|rfl)
   refine gd ?_ ?_<;>intro x0
   ·have Z:[tmkT ((durT m s.Value).N*3) ((durT m s.Value).D*2)]=mdL m s.Value s.Way:=by unfold mdL;rw[j4 (by omega),j4 (by omega),j4 (by omega),j4 (by omega),j4 (by omega),j3 x0]
    refine gc (zaM (durT m s.Value) 3 2 (by omega) (by omega)) ?_;all_goals exact j5 tmsA Z
   refine gd ?_ ?_<;>intro w2
   ·have J:s.Way=7:=w2;refine gq ?_;refine yP (yX m 4) ?_;refine ya ?_;refine kI 3 ?_;refine yp ?_;(iterate 2 refine kG ?_);refine gf ?_ ?_<;>intro v9
    ·have Z:[⟨3,2⟩]=mdL m s.Value s.Way:=by unfold mdL;rw[j4 (by omega),j4 (by omega),j4 (by omega),j4 (by omega),j4 (by omega),j4 (by omega),j3 J,j3 v9]
     refine gq ?_;refine yD tmE [⟨3,2⟩] ?_;refine yh ?_;refine kE ?_;refine kA (k9 (k:=104) rfl) ?_;refine gq ?_;all_goals(first|exact j5 tmsA Z|rfl)
    refine gq ?_;refine yP (yX m 4) ?_;refine ya ?_;refine kI 3 ?_;refine yp ?_;(iterate 2 refine kG ?_);refine gf ?_ ?_<;>intro v8
    ·have Z:[⟨1,2⟩]=mdL m s.Value s.Way:=by unfold mdL;rw[j4 (by omega),j4 (by omega),j4 (by omega),j4 (by omega),j4 (by omega),j4 (by omega),j3 J,j4 (by omega),j3 v8]
     refine gq ?_;refine yD tmE [⟨1,2⟩] ?_;refine yh ?_;refine kE ?_;refine kA (k9 (k:=113) rfl) ?_;refine gq ?_;all_goals(first|exact j5 tmsA Z|rfl)
    have Z:[]=mdL m s.Value s.Way:=by unfold mdL;rw[j4 (by omega),j4 (by omega),j4 (by omega),j4 (by omega),j4 (by omega),j4 (by omega),j3 J,j4 (by omega),j4 (by omega)]
    apply yk;apply ye;refine yh ?_;refine kE ?_;refine kA (yd (ts:=[(4,tmsA [])]) (hs:=[])) ?_;refine gq ?_;all_goals(first|exact j5 tmsA Z|rfl)
   ·omega
end Go.Rse
