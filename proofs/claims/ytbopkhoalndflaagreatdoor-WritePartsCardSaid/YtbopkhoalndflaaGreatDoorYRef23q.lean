/-
  Walks.
-/
import Derived.Test.YtbopkhoalndflaaGreatDoorYJPrt0
set_option linter.all false
namespace Go.Rse
open Go Go.Proofs Go.Proofs.Tryz
def zzA{m:Mn}{h:Hb}{L:List (List Bt)}{k:Nat}{b:List Bt}(V:PtJ m h L k)(U:L[k]? =some b)(c:¬afE m b h=0):ptK m h L [msS m] [] []=(afE m b h,[]):=by
 by_cases h0:wcnE m b h=0
 ·by_cases Z:wcnV m b h=0
  ·have T:cnP m h b=0:=by have:=zsz h0;rw[Z]at this;omega
   rw[(zyr h0 Z).1];exact V.no U h0 (zk9 T) (zk9 T)
  ·exact absurd (zys h0 Z).1 c
 ·rw[(zsy h0).1];exact V.err U h0
def zzB{m:Mn}{h:Hb}{b:List Bt}(c:afE m b h=0):wcnE m b h=0/\afV m b h=chV m b h:=by
 have h0:wcnE m b h=0:=by
  apply wI;intro Z;rw[(zsy Z).1]at c;exact Z c
 exact⟨h0,by unfold afV;rw[j3 c]⟩
def zve(m:Mn)(h:Hb)(L:List (List Bt)):[msS m]=(ptS m h L 0).1/\[]=(ptS m h L 0).2.1/\[]=(ptS m h L 0).2.2:=⟨rfl,rfl,rfl⟩
def zda{α:Sort _}(a:α):∃q,a=q:=⟨a,rfl⟩
attribute [local irreducible] Pur yA yC Ex X Fn Imp LeV LeB FnO It yH FnW FnOW FnP FnD
attribute [local irreducible] wcE wcnE wcnV blE blV ptS ptK paE paN paV nmQ bsB srV chV durB afE afV fiV
set_option maxHeartbeats 16000000 in
set_option maxRecDepth 100000 in
def zge(s:ByteArray)(m:Mn)(l:List Bt)(h:Hb)(hs:s.size<=1000000)(hl:l.length<=1000000):Fn prog 51 [.str s,mnA m,btsA l,hbA h] (.tup [.agg [.str (paN s m l h),sgsA (paV s m l h)],iv (paE s m l h)]):=by
 have x4:=zaK m l hl;have x3:blE m l=0->(∀b∈blV m l,1<=b.length)/\(blV m l).flatten=l:=λe=>zit e
 have j2:=zda (blV m l);obtain⟨L,J⟩:=j2;rw[J]at x4 x3;refine kF func51 ntmps51 (λg w d=>?_);refine gc (zfS s hs) ?_;refine gd ?_ ?_<;>intro x2
 ·have hE:=zx5 (m:=m) (l:=l) (h:=h) (s:=s) x2;have j0:=zhG (s:=s) (m:=m) (l:=l) (h:=h) (by rw[hE];decide);obtain⟨hN,Z⟩:=j0;apply ye;refine ya ?_;refine kK ?_;refine yh ?_;refine kE ?_;refine kA (kY (ts:=[(8,.ptr 8 0 0 0),(9,iv 7)]) (hs:=[(8,.box [.str ⟨#[]⟩,sgsA []] 69)]) ⟨⟨_,rfl,kH _⟩,⟨_,rfl,kH _⟩,True.intro⟩ ⟨⟨_,rfl,bC (.cons (kH _) (.cons (kP _) .nil))⟩,True.intro⟩) ?_;refine yr ty69 ?_ ?_;all_goals(first|(rw[hN,Z];done)|exact zE hE)
 have c0:nmQ (bsB s)=true:=x2;refine gc x4 ?_;refine gd ?_ ?_<;>intro x1
 ·have hE:=zx6 (h:=h) c0 x1;have hZ:=zhG (s:=s) (m:=m) (l:=l) (h:=h) (by rw[hE];exact x1);obtain⟨hN,Z⟩:=hZ;apply ye;iterate 2 refine ya ?_
  refine kK ?_;refine yh ?_;refine kE ?_;refine kA (kY (ts:=[(8,.ptr 8 0 0 0),(9,iv (blE m l))]) (hs:=[(8,.box [.str ⟨#[]⟩,sgsA []] 69)]) ⟨⟨_,rfl,kH _⟩,⟨_,rfl,kH _⟩,True.intro⟩ ⟨⟨_,rfl,bC (.cons (kH _) (.cons (kP _) .nil))⟩,True.intro⟩) ?_;refine yr ty69 ?_ ?_;all_goals(first|(rw[hN,Z];done)|exact zE hE)
 have e0:blE m l=0:=by omega
 refine gd ?_ ?_<;>intro hc3
 ·have hE:=zx7 (h:=h) c0 e0 (by omega);have hY:=zhG (s:=s) (m:=m) (l:=l) (h:=h) (by rw[hE];decide);obtain⟨hN,Z⟩:=hY;apply ye;refine ya ?_;refine kK ?_;refine yh ?_;refine kE ?_;refine kA (kY (ts:=[(8,.ptr 8 0 0 0),(9,iv 11)]) (hs:=[(8,.box [.str ⟨#[]⟩,sgsA []] 69)]) ⟨⟨_,rfl,kH _⟩,⟨_,rfl,kH _⟩,True.intro⟩ ⟨⟨_,rfl,bC (.cons (kH _) (.cons (kP _) .nil))⟩,True.intro⟩) ?_;refine yr ty69 ?_ ?_;all_goals(first|(rw[hN,Z];done)|exact zE hE)
 have I:l.length<=60:=by omega
 refine gq ?_;refine yD sgE [msS m] ?_;refine ya ?_;refine zk ?_;refine kK ?_;apply yG;refine ya ?_;apply yG;refine yh ?_;iterate 2 apply yf
 have H:=x3 e0;have hX:=zkJ H.1;rw[H.2]at hX;refine kJ (st':=⟨[(0,.str s),(5,.ptr 5 0 0 0),(7,.ptr 7 0 0 0),(8,.ptr 8 0 0 0),(10,blsA L),(12,.ptr 12 0 0 0),(13,.ptr 13 0 0 0),(14,sgsA []),(15,btsA [])],[(5,.box (mnE m) 23),(7,.box (hbE h) 32),(8,.box [.str ⟨#[]⟩,.nils] 69),(12,.box (sgE (msS m)) 90),(13,.box [.str s,.own 44] 69),(44,.row sgE ([msS m]) 90 17)]⟩) yi ?_;have hW:=zve m h L;obtain⟨hz1,hz2,hz3⟩:=hW;apply yj;refine yh ?_;apply kB;refine zM (λk=>[(0,.str s),(5,.ptr 5 0 0 0),(7,.ptr 7 0 0 0),(8,.ptr 8 0 0 0),(10,blsA L),(12,.ptr 12 0 0 0),(13,.ptr 13 0 0 0),(16,iv (k:Int)),(14,sgsA (ptS m h L k).2.1),(15,btsA (ptS m h L k).2.2)]) (λk=>[(5,.box (mnE m) 23),(7,.box (hbE h) 32),(8,.box [.str ⟨#[]⟩,.nils] 69),(12,.box (sgE (msS m)) 90),(13,.box [.str s,.own 44] 69),(44,.row sgE ((ptS m h L k).1) 90 17)]) (λk=>k<=L.length/\PtJ m h L k) L.length (λk hk=>?_) (hJ:=by exact⟨w7 _,zuB _ _ _⟩);obtain⟨k1,k2⟩:=hk;refine gd ?_ ?_<;>intro hc4
 ·obtain⟨b,G⟩:∃b,L[k]? =some b:=⟨_,lgg (by omega)⟩;have hb2:L[(k:Int).toNat]? =some b:=by simpa using G
  have q1:=k2.r;have q2:=k2.b;have q3:=k2.s;have q4:=zl0 H.2 k;have q5:=zl0 H.2 (k+1);rw[(zg8 G).2.2,jE]at q5;refine gq ?_;refine yW [17,18,52,53,54,55,56,57,58,59,60,61] [0,0,0,6,14,0,63,127,255,255,511,2047] mo ?_;iterate 6 refine yb ?_
  refine yL (zdT m b h (by omega)) ?_;iterate 5 refine yb ?_
  refine yF ?_;refine gd ?_ ?_<;>intro E
  ·have U:=zzA k2 G E;rw[←J]at U;have hE:=zso c0 e0 I U E;have hU:=zhG (s:=s) (m:=m) (l:=l) (h:=h) (by rw[hE];exact E);obtain⟨hN,Z⟩:=hU;apply ye;(iterate 2 refine ya ?_);refine kK ?_;refine yh ?_;refine kE ?_;refine kA (kY (ts:=[(8,.ptr 8 0 0 0),(9,iv (afE m b h))]) (hs:=[(8,.box [.str ⟨#[]⟩,sgsA []] 69)]) ⟨⟨_,rfl,kH _⟩,⟨_,rfl,kH _⟩,True.intro⟩ ⟨⟨_,rfl,bC (.cons (kH _) (.cons (kP _) .nil))⟩,True.intro⟩) ?_;refine yr ty69 ?_ ?_;all_goals(first|(rw[hN,Z];done)|exact zE hE)
  have a0:afE m b h=0:=by omega
  have hT:=zzB a0;obtain⟨w0,w1⟩:=hT;have hok:=zyt a0;have hQ:(afV m b h).length=b.length:=by rw[w1,zd0]
  have x0:=zcJ m (durB ((ptS m h L k).2.2++b)) _ (afV m b h) 0 (ptS m h L k).2.1 rfl (w7 _) hok.1 hok.2.1 (by rw[hQ];omega);have w2:=zcJ m (durB b) _ (afV m b h) 0 [] rfl (w7 _) hok.1 hok.2.1 hok.2.2;rw[List.drop_zero]at x0 w2;have hB0:([]:List Bt)++(ptS m h L k).2.2++b=(ptS m h L k).2.2++b:=rfl;refine gq ?_;refine kW [⟨1,67,btsA (ptS m h L k).2.2,[]⟩,⟨3,69,blsA L,[]⟩,⟨4,70,iv (k:Int),[]⟩,⟨5,71,.ept btsE b 0,[4,3]⟩,⟨6,72,btsA b,[4,3,5]⟩] [(0,[]),(2,[1,0]),(7,[4,3,5,1,0,6,2]),(8,[6,5,4,3,2,1,0,7])] (λj=>match j with|0=>⟨[(0,.str s),(5,.ptr 5 0 0 0),(7,.ptr 7 0 0 0),(8,.ptr 8 0 0 0),(10,blsA L),(12,.ptr 12 0 0 0),(13,.ptr 13 0 0 0),(16,iv (k:Int)),(14,sgsA (ptS m h L k).2.1),(15,btsA (ptS m h L k).2.2),(17,chsA (afV m b h))],[(5,.box (mnE m) 23),(7,.box (hbE h) 32),(8,.box [.str ⟨#[]⟩,.nils] 69),(12,.box (sgE (msS m)) 90),(13,.box [.str s,.own 44] 69),(44,.row sgE ((ptS m h L k).1) 90 17)]⟩|1=>⟨[(0,.str s),(5,.ptr 5 0 0 0),(7,.ptr 7 0 0 0),(8,.ptr 8 0 0 0),(10,blsA L),(12,.ptr 12 0 0 0),(13,.ptr 13 0 0 0),(16,iv (k:Int)),(14,sgsA (ptS m h L k).2.1),(15,btsA (ptS m h L k).2.2),(17,chsA (afV m b h)),(66,.own 66)],[(5,.box (mnE m) 23),(7,.box (hbE h) 32),(8,.box [.str ⟨#[]⟩,.nils] 69),(12,.box (sgE (msS m)) 90),(13,.box [.str s,.own 44] 69),(44,.row sgE ((ptS m h L k).1) 90 17),(66,.row btE ([]) 100 3)]⟩|2=>⟨[(0,.str s),(5,.ptr 5 0 0 0),(7,.ptr 7 0 0 0),(8,.ptr 8 0 0 0),(10,blsA L),(12,.ptr 12 0 0 0),(13,.ptr 13 0 0 0),(16,iv (k:Int)),(14,sgsA (ptS m h L k).2.1),(15,btsA (ptS m h L k).2.2),(17,chsA (afV m b h)),(68,.own 66)],[(5,.box (mnE m) 23),(7,.box (hbE h) 32),(8,.box [.str ⟨#[]⟩,.nils] 69),(12,.box (sgE (msS m)) 90),(13,.box [.str s,.own 44] 69),(44,.row sgE ((ptS m h L k).1) 90 17),(66,.row btE ([]++(ptS m h L k).2.2) 100 3)]⟩|3=>⟨[(0,.str s),(5,.ptr 5 0 0 0),(7,.ptr 7 0 0 0),(8,.ptr 8 0 0 0),(10,blsA L),(12,.ptr 12 0 0 0),(13,.ptr 13 0 0 0),(16,iv (k:Int)),(14,sgsA (ptS m h L k).2.1),(15,btsA (ptS m h L k).2.2),(17,chsA (afV m b h)),(73,.own 66)],[(5,.box (mnE m) 23),(7,.box (hbE h) 32),(8,.box [.str ⟨#[]⟩,.nils] 69),(12,.box (sgE (msS m)) 90),(13,.box [.str s,.own 44] 69),(44,.row sgE ((ptS m h L k).1) 90 17),(66,.row btE ([]++(ptS m h L k).2.2++b) 100 3)]⟩|_=>⟨[(0,.str s),(5,.ptr 5 0 0 0),(7,.ptr 7 0 0 0),(8,.ptr 8 0 0 0),(10,blsA L),(12,.ptr 12 0 0 0),(13,.ptr 13 0 0 0),(16,iv (k:Int)),(14,sgsA (ptS m h L k).2.1),(15,btsA (ptS m h L k).2.2),(17,chsA (afV m b h)),(19,.own 66)],[(5,.box (mnE m) 23),(7,.box (hbE h) 32),(8,.box [.str ⟨#[]⟩,.nils] 69),(12,.box (sgE (msS m)) 90),(13,.box [.str s,.own 44] 69),(44,.row sgE ((ptS m h L k).1) 90 17),(66,.row btE ([]++(ptS m h L k).2.2++b) 100 3)]⟩) mo (by kernel_rfl) (zg (yd)) (λj hj=>?_) (λj c V β hβ=>?_) ?_
  ·rcases j with _|_|_|_|_|j
   ·exact yw
   ·exact yw
   ·exact yw
   ·exact yw
   ·exact yw
   ·exact absurd (show j+5<=4 from hj) (by omega)
  ·rcases j with _|_|_|_|j
   ·obtain rfl:(0,[])=c:=by injection V
    refine yo rfl (yn (st0:=⟨[(67,.ifb (β 1) (btsA (ptS m h L k).2.2)),(69,.ifb (β 3) (blsA L)),(70,.ifb (β 4) (iv (k:Int))),(71,.ifb (β 5) (.ept btsE b 0)),(72,.ifb (β 6) (btsA b)),(0,.str s),(5,.ptr 5 0 0 0),(7,.ptr 7 0 0 0),(8,.ptr 8 0 0 0),(10,blsA L),(12,.ptr 12 0 0 0),(13,.ptr 13 0 0 0),(16,iv (k:Int)),(14,sgsA (ptS m h L k).2.1),(15,btsA (ptS m h L k).2.2),(17,chsA (afV m b h))],[(5,.box (mnE m) 23),(7,.box (hbE h) 32),(8,.box [.str ⟨#[]⟩,.nils] 69),(12,.box (sgE (msS m)) 90),(13,.box [.str s,.own 44] 69),(44,.row sgE ((ptS m h L k).1) 90 17)]⟩) (yl) ?_);refine yC.imp (yK (zD (k:=66) (enc:=btE) (l:=([]:List Bt)) sl24 zfK zjn (by decide) rfl rfl rfl rfl (by decide) (by decide) (λ_=>rfl) rfl) rfl rfl) (yl)
   ·obtain rfl:(2,[1,0])=c:=by injection V
    refine yo rfl (yn (st0:=⟨[(67,btsA (ptS m h L k).2.2),(69,.ifb (β 3) (blsA L)),(70,.ifb (β 4) (iv (k:Int))),(71,.ifb (β 5) (.ept btsE b 0)),(72,.ifb (β 6) (btsA b)),(0,.str s),(5,.ptr 5 0 0 0),(7,.ptr 7 0 0 0),(8,.ptr 8 0 0 0),(10,blsA L),(12,.ptr 12 0 0 0),(13,.ptr 13 0 0 0),(16,iv (k:Int)),(14,sgsA (ptS m h L k).2.1),(15,btsA (ptS m h L k).2.2),(17,chsA (afV m b h)),(66,.own 66)],[(5,.box (mnE m) 23),(7,.box (hbE h) 32),(8,.box [.str ⟨#[]⟩,.nils] 69),(12,.box (sgE (msS m)) 90),(13,.box [.str s,.own 44] 69),(44,.row sgE ((ptS m h L k).1) 90 17),(66,.row btE ([]) 100 3)]⟩) (yl) ?_);refine yC.imp (y6 rfl rfl rfl SlK.h TiK.h (by decide) (by decide) (λ_=>rfl) (λ_=>rfl) (by first|omega|(simp;done)|(simp;omega)|(simp_all;omega)) rfl) (yl)
   ·obtain rfl:(7,[4,3,5,1,0,6,2])=c:=by injection V
    refine yo rfl (yn (st0:=⟨[(67,btsA (ptS m h L k).2.2),(69,blsA L),(70,iv (k:Int)),(71,.ept btsE b 0),(72,btsA b),(0,.str s),(5,.ptr 5 0 0 0),(7,.ptr 7 0 0 0),(8,.ptr 8 0 0 0),(10,blsA L),(12,.ptr 12 0 0 0),(13,.ptr 13 0 0 0),(16,iv (k:Int)),(14,sgsA (ptS m h L k).2.1),(15,btsA (ptS m h L k).2.2),(17,chsA (afV m b h)),(68,.own 66)],[(5,.box (mnE m) 23),(7,.box (hbE h) 32),(8,.box [.str ⟨#[]⟩,.nils] 69),(12,.box (sgE (msS m)) 90),(13,.box [.str s,.own 44] 69),(44,.row sgE ((ptS m h L k).1) 90 17),(66,.row btE ([]++(ptS m h L k).2.2) 100 3)]⟩) (yl) ?_);refine yC.imp (y6 rfl rfl rfl SlK.h TiK.h (by decide) (by decide) (λ_=>rfl) (λ_=>rfl) (by first|omega|(simp;done)|(simp;omega)|(simp_all;omega)) rfl) (yl)
   ·obtain rfl:(8,[6,5,4,3,2,1,0,7])=c:=by injection V
    refine yo rfl (yn (st0:=⟨[(67,btsA (ptS m h L k).2.2),(69,blsA L),(70,iv (k:Int)),(71,.ept btsE b 0),(72,btsA b),(0,.str s),(5,.ptr 5 0 0 0),(7,.ptr 7 0 0 0),(8,.ptr 8 0 0 0),(10,blsA L),(12,.ptr 12 0 0 0),(13,.ptr 13 0 0 0),(16,iv (k:Int)),(14,sgsA (ptS m h L k).2.1),(15,btsA (ptS m h L k).2.2),(17,chsA (afV m b h)),(73,.own 66)],[(5,.box (mnE m) 23),(7,.box (hbE h) 32),(8,.box [.str ⟨#[]⟩,.nils] 69),(12,.box (sgE (msS m)) 90),(13,.box [.str s,.own 44] 69),(44,.row sgE ((ptS m h L k).1) 90 17),(66,.row btE ([]++(ptS m h L k).2.2++b) 100 3)]⟩) (yl) ?_);refine yC.imp (yK (k8 (za6 rfl)) rfl rfl) (yl)
   ·exact absurd V (by simp)
  apply yf;refine kJ (k9 (k:=66) rfl) ?_;refine kJ (st':=⟨[(0,.str s),(5,.ptr 5 0 0 0),(7,.ptr 7 0 0 0),(8,.ptr 8 0 0 0),(10,blsA L),(12,.ptr 12 0 0 0),(13,.ptr 13 0 0 0),(16,iv (k:Int)),(14,sgsA (ptS m h L k).2.1),(17,chsA (afV m b h)),(19,btsA ((ptS m h L k).2.2++b))],[(5,.box (mnE m) 23),(7,.box (hbE h) 32),(8,.box [.str ⟨#[]⟩,.nils] 69),(12,.box (sgE (msS m)) 90),(13,.box [.str s,.own 44] 69),(44,.row sgE ((ptS m h L k).1) 90 17)]⟩) yi ?_;refine yW [20,21,74,75,76,77,78,79,80,81,82] [0,0,2,0,0,31,63,127,127,255,1023] mo ?_;iterate 2 refine yb ?_
  refine yL (zbp ((ptS m h L k).2.2++b) (by rw[jE];omega)) ?_;iterate 2 refine yb ?_
  refine yL x0 ?_;iterate 5 refine yb ?_
  refine yF ?_;refine gd ?_ ?_<;>intro v9
  ·have hn:srV m (durB ((ptS m h L k).2.2++b)) (chV m b h) (ptS m h L k).2.1=none:=by rw[←w1];simpa using v9
   apply yf;refine yW [20,21,85,86,87,88,89,90,91,92,93,94,95] [0,0,0,6,14,30,0,127,255,511,511,1023,4095] mo ?_;(iterate 5 refine yb ?_);refine yL (zbp b (by omega)) ?_;refine yb ?_;refine ChM.step rfl rfl rfl (zT rfl rfl rfl (.cons (kH _) (.cons (kH _) (.cons (kH _) (.cons (kH _) (.cons (kP _) .nil))))) w2) rfl ?_;(iterate 5 refine yb ?_);refine yF ?_;refine gd ?_ ?_<;>intro v8
   ·have hP:srV m (durB b) (chV m b h) []=none:=by rw[←w1];simpa using v8
    have U:=k2.no G w0 hn hP;rw[←J]at U;have hE:=zso c0 e0 I U (by decide);have hM:=zhG (s:=s) (m:=m) (l:=l) (h:=h) (by rw[hE];decide);obtain⟨hN,Z⟩:=hM;apply ye;refine ya ?_;refine kK ?_;refine yh ?_;refine kE ?_;refine kA (kY (ts:=[(8,.ptr 8 0 0 0),(9,iv 18)]) (hs:=[(8,.box [.str ⟨#[]⟩,sgsA []] 69)]) ⟨⟨_,rfl,kH _⟩,⟨_,rfl,kH _⟩,True.intro⟩ ⟨⟨_,rfl,bC (.cons (kH _) (.cons (kP _) .nil))⟩,True.intro⟩) ?_;refine yr ty69 ?_ ?_;all_goals(first|(rw[hN,Z];done)|exact zE hE)
   have hG:=wE.1 (show(srV m (durB b) (afV m b h) []).isSome=true by simpa using v8);obtain⟨x,hx⟩:=hG;have hC:=zsx hx;rw[w1]at hx;have xT:=k2.s2 G w0 hn hx;have hS:=zqd G hn hx;have h9:=zg9 hx;have v5:=zda (([]:List Sg));obtain⟨R1,T⟩:=v5;have v4:=zda ((ptS m h L k).1++[msS m]);obtain⟨S1,Q⟩:=v4;have v3:=zda (b);obtain⟨B1,N⟩:=v3;have h8:([]:List Bt)++b=B1:=N;have v1:S1++x.drop ((R1.length:Nat):Int).toNat=(ptS m h L (k+1)).1:=by rw[hS,←T,←Q];rfl
   have v0:x=(ptS m h L (k+1)).2.1:=by rw[hS]
   have u4:B1=(ptS m h L (k+1)).2.2:=by rw[hS,←N]
   have h5:R1.length=0:=by rw[←T];rfl
   have h4:S1.length=(ptS m h L k).1.length+1:=by rw[←Q,jE];rfl
   apply yk;apply yf;refine kJ (st':=⟨[(0,.str s),(5,.ptr 5 0 0 0),(7,.ptr 7 0 0 0),(8,.ptr 8 0 0 0),(10,blsA L),(12,.ptr 12 0 0 0),(13,.ptr 13 0 0 0),(16,iv (k:Int)),(20,sgsA x)],[(5,.box (mnE m) 23),(7,.box (hbE h) 32),(8,.box [.str ⟨#[]⟩,.nils] 69),(12,.box (sgE (msS m)) 90),(13,.box [.str s,.own 44] 69),(44,.row sgE ((ptS m h L k).1) 90 17)]⟩) yi ?_;refine gq ?_;refine yD sgE [msS m] ?_;refine kK ?_;refine ya ?_;refine kK ?_;apply yG;refine yh ?_;refine kJ (st':=⟨[(0,.str s),(5,.ptr 5 0 0 0),(7,.ptr 7 0 0 0),(8,.ptr 8 0 0 0),(10,blsA L),(12,.ptr 12 0 0 0),(13,.ptr 13 0 0 0),(16,iv (k:Int)),(14,sgsA []),(20,sgsA x)],[(5,.box (mnE m) 23),(7,.box (hbE h) 32),(8,.box [.str ⟨#[]⟩,.nils] 69),(12,.box (sgE (msS m)) 90),(13,.box [.str s,.own 44] 69),(44,.row sgE ((ptS m h L k).1++[msS m]) 90 17)]⟩) yi ?_;apply yj;refine yD btE [] ?_;(iterate 4 refine ya ?_);refine zaf (y6 (l:=[]) (l2:=b) rfl rfl rfl SlK.h TiK.h (by decide) (by decide) (λ_=>rfl) (λ_=>rfl) (by simp only[wK];omega) rfl) ?_;refine ya ?_;refine kU (k9 (k:=105) rfl) ?_;refine kU (st':=⟨[(0,.str s),(5,.ptr 5 0 0 0),(7,.ptr 7 0 0 0),(8,.ptr 8 0 0 0),(10,blsA L),(12,.ptr 12 0 0 0),(13,.ptr 13 0 0 0),(16,iv (k:Int)),(14,sgsA []),(19,btsA b),(20,sgsA x)],[(5,.box (mnE m) 23),(7,.box (hbE h) 32),(8,.box [.str ⟨#[]⟩,.nils] 69),(12,.box (sgE (msS m)) 90),(13,.box [.str s,.own 44] 69),(44,.row sgE ((ptS m h L k).1++[msS m]) 90 17)]⟩) yi ?_;apply kQ;apply yf;refine kJ (st':=⟨[(0,.str s),(5,.ptr 5 0 0 0),(7,.ptr 7 0 0 0),(8,.ptr 8 0 0 0),(10,blsA L),(12,.ptr 12 0 0 0),(13,.ptr 13 0 0 0),(16,iv (k:Int)),(14,sgsA R1),(19,btsA B1),(20,sgsA x)],[(5,.box (mnE m) 23),(7,.box (hbE h) 32),(8,.box [.str ⟨#[]⟩,.nils] 69),(12,.box (sgE (msS m)) 90),(13,.box [.str s,.own 44] 69),(44,.row sgE (S1) 90 17)]⟩) yi ?_;refine kW [⟨0,111,.ptr 13 0 0 (0+1),[]⟩,⟨2,113,sgsA x,[]⟩,⟨3,114,sgsA R1,[]⟩,⟨4,115,iv (R1.length:Int),[3]⟩,⟨5,116,sgsA (x.drop ((R1.length:Nat):Int).toNat),[3,4,2]⟩,⟨7,118,.ptr 13 0 0 (0+1),[6,5,4,3,2,1,0]⟩] [(1,[0]),(6,[3,4,2,0,5,1]),(8,[5,4,3,2,1,0,6,7])] (λj=>match j with|0=>⟨[(0,.str s),(5,.ptr 5 0 0 0),(7,.ptr 7 0 0 0),(8,.ptr 8 0 0 0),(10,blsA L),(12,.ptr 12 0 0 0),(13,.ptr 13 0 0 0),(16,iv (k:Int)),(14,sgsA R1),(19,btsA B1),(20,sgsA x)],[(5,.box (mnE m) 23),(7,.box (hbE h) 32),(8,.box [.str ⟨#[]⟩,.nils] 69),(12,.box (sgE (msS m)) 90),(13,.box [.str s,.own 44] 69),(44,.row sgE (S1) 90 17)]⟩|1=>⟨[(0,.str s),(5,.ptr 5 0 0 0),(7,.ptr 7 0 0 0),(8,.ptr 8 0 0 0),(10,blsA L),(12,.ptr 12 0 0 0),(13,.ptr 13 0 0 0),(16,iv (k:Int)),(14,sgsA R1),(19,btsA B1),(20,sgsA x),(112,.own 44)],[(5,.box (mnE m) 23),(7,.box (hbE h) 32),(8,.box [.str ⟨#[]⟩,.nils] 69),(12,.box (sgE (msS m)) 90),(13,.box [.str s,.own 44] 69),(44,.row sgE (S1) 90 17)]⟩|2=>⟨[(0,.str s),(5,.ptr 5 0 0 0),(7,.ptr 7 0 0 0),(8,.ptr 8 0 0 0),(10,blsA L),(12,.ptr 12 0 0 0),(13,.ptr 13 0 0 0),(16,iv (k:Int)),(14,sgsA R1),(19,btsA B1),(20,sgsA x),(117,.own 44)],[(5,.box (mnE m) 23),(7,.box (hbE h) 32),(8,.box [.str ⟨#[]⟩,.nils] 69),(12,.box (sgE (msS m)) 90),(13,.box [.str s,.any] 69),(44,.row sgE (S1++x.drop ((R1.length:Nat):Int).toNat) 90 17)]⟩|_=>⟨[(0,.str s),(5,.ptr 5 0 0 0),(7,.ptr 7 0 0 0),(8,.ptr 8 0 0 0),(10,blsA L),(12,.ptr 12 0 0 0),(13,.ptr 13 0 0 0),(16,iv (k:Int)),(14,sgsA R1),(19,btsA B1),(20,sgsA x)],[(5,.box (mnE m) 23),(7,.box (hbE h) 32),(8,.box [.str ⟨#[]⟩,.nils] 69),(12,.box (sgE (msS m)) 90),(13,.box [.str s,.own 44] 69),(44,.row sgE (S1++x.drop ((R1.length:Nat):Int).toNat) 90 17)]⟩) mo (by kernel_rfl) (zg (yd)) (λj hj=>?_) (λj c V β hβ=>?_) ?_
   ·rcases j with _|_|_|_|j
    ·iterate 4 refine⟨.inr ⟨_,rfl,rfl,rfl,rfl,k8 yJ⟩,?_⟩
     first
      |refine⟨.inr ⟨_,rfl,rfl,rfl,rfl,k8 (zf rfl rfl rfl sl33 ty90 (by omega) (by omega))⟩,?_⟩
      |refine⟨.inr ⟨_,rfl,rfl,rfl,rfl,k8 (zp rfl rfl sl33 ty90 (λ_=>rfl) (by omega) (by omega))⟩,?_⟩
     exact yw
    ·refine⟨.inl rfl,?_⟩;iterate 3 refine⟨.inr ⟨_,rfl,rfl,rfl,rfl,k8 yJ⟩,?_⟩
     first
      |refine⟨.inr ⟨_,rfl,rfl,rfl,rfl,k8 (zf rfl rfl rfl sl33 ty90 (by omega) (by omega))⟩,?_⟩
      |refine⟨.inr ⟨_,rfl,rfl,rfl,rfl,k8 (zp rfl rfl sl33 ty90 (λ_=>rfl) (by omega) (by omega))⟩,?_⟩
     exact yw
    ·exact yw
    ·exact yw
    ·exact absurd (show j+4<=3 from hj) (by omega)
   ·rcases j with _|_|_|j
    ·obtain rfl:(1,[0])=c:=by injection V
     refine yo rfl (yn (st0:=⟨[(111,.ptr 13 0 0 (0+1)),(113,.ifb (β 2) (sgsA x)),(114,.ifb (β 3) (sgsA R1)),(115,.ifb (β 4) (iv (R1.length:Int))),(116,.ifb (β 5) (sgsA (x.drop ((R1.length:Nat):Int).toNat))),(118,.ifb (β 7) (.ptr 13 0 0 (0+1))),(0,.str s),(5,.ptr 5 0 0 0),(7,.ptr 7 0 0 0),(8,.ptr 8 0 0 0),(10,blsA L),(12,.ptr 12 0 0 0),(13,.ptr 13 0 0 0),(16,iv (k:Int)),(14,sgsA R1),(19,btsA B1),(20,sgsA x)],[(5,.box (mnE m) 23),(7,.box (hbE h) 32),(8,.box [.str ⟨#[]⟩,.nils] 69),(12,.box (sgE (msS m)) 90),(13,.box [.str s,.own 44] 69),(44,.row sgE (S1) 90 17)]⟩) (yl) ?_);refine yC.imp (yK (k8 yJ) rfl rfl) (yl)
    ·obtain rfl:(6,[3,4,2,0,5,1])=c:=by injection V
     refine yo rfl (yn (st0:=⟨[(111,.ptr 13 0 0 (0+1)),(113,sgsA x),(114,sgsA R1),(115,iv (R1.length:Int)),(116,sgsA (x.drop ((R1.length:Nat):Int).toNat)),(118,.ifb (β 7) (.ptr 13 0 0 (0+1))),(0,.str s),(5,.ptr 5 0 0 0),(7,.ptr 7 0 0 0),(8,.ptr 8 0 0 0),(10,blsA L),(12,.ptr 12 0 0 0),(13,.ptr 13 0 0 0),(16,iv (k:Int)),(14,sgsA R1),(19,btsA B1),(20,sgsA x),(112,.own 44)],[(5,.box (mnE m) 23),(7,.box (hbE h) 32),(8,.box [.str ⟨#[]⟩,.nils] 69),(12,.box (sgE (msS m)) 90),(13,.box [.str s,.own 44] 69),(44,.row sgE (S1) 90 17)]⟩) (yl) ?_);refine yC.imp (y6 (l2:=x.drop ((R1.length:Nat):Int).toNat) rfl rfl rfl sl33 ti90 (by decide) (by decide) (λ_=>rfl) (λ_=>rfl) (by rw[wM];omega) rfl) (yl)
    ·obtain rfl:(8,[5,4,3,2,1,0,6,7])=c:=by injection V
     refine yo rfl (yn (st0:=⟨[(111,.ptr 13 0 0 (0+1)),(113,sgsA x),(114,sgsA R1),(115,iv (R1.length:Int)),(116,sgsA (x.drop ((R1.length:Nat):Int).toNat)),(118,.ptr 13 0 0 (0+1)),(0,.str s),(5,.ptr 5 0 0 0),(7,.ptr 7 0 0 0),(8,.ptr 8 0 0 0),(10,blsA L),(12,.ptr 12 0 0 0),(13,.ptr 13 0 0 0),(16,iv (k:Int)),(14,sgsA R1),(19,btsA B1),(20,sgsA x),(117,.own 44)],[(5,.box (mnE m) 23),(7,.box (hbE h) 32),(8,.box [.str ⟨#[]⟩,.nils] 69),(12,.box (sgE (msS m)) 90),(13,.box [.str s,.any] 69),(44,.row sgE (S1++x.drop ((R1.length:Nat):Int).toNat) 90 17)]⟩) (yl) ?_);refine yC.imp (z6 rfl rfl rfl rfl TyK.h (by simp)) (yl)
    ·exact absurd V (by simp)
   refine gq ?_;refine yz (k+1) (hJ:=by exact⟨by omega,xT⟩) (hI:=yi)
  ·have u3:=wE.1 (show(srV m (durB ((ptS m h L k).2.2++b)) (afV m b h) (ptS m h L k).2.1).isSome=true by simpa using v9);obtain⟨x,hx⟩:=u3;have hC:=zsx hx;rw[w1]at hx;have xT:=k2.s1 G w0 hx;have hS:=zqc G hx;have h9:=zg9 hx;have u2:=zda ((ptS m h L k).2.1);obtain⟨R1,T⟩:=u2;have u1:=zda ((ptS m h L k).1);obtain⟨S1,Q⟩:=u1;have k5:=zda ((ptS m h L k).2.2++b);obtain⟨B1,N⟩:=k5;have h8:([]:List Bt)++(ptS m h L k).2.2++b=B1:=N;have v1:S1++x.drop ((R1.length:Nat):Int).toNat=(ptS m h L (k+1)).1:=by rw[hS,←T,←Q,wG]
   have v0:x=(ptS m h L (k+1)).2.1:=by rw[hS]
   have u4:B1=(ptS m h L (k+1)).2.2:=by rw[hS,←N]
   have h5:R1.length=(ptS m h L k).2.1.length:=by rw[T]
   have h4:S1.length=(ptS m h L k).1.length:=by rw[Q]
   apply yk;apply yf;refine kJ (st':=⟨[(0,.str s),(5,.ptr 5 0 0 0),(7,.ptr 7 0 0 0),(8,.ptr 8 0 0 0),(10,blsA L),(12,.ptr 12 0 0 0),(13,.ptr 13 0 0 0),(16,iv (k:Int)),(14,sgsA R1),(19,btsA B1),(20,sgsA x)],[(5,.box (mnE m) 23),(7,.box (hbE h) 32),(8,.box [.str ⟨#[]⟩,.nils] 69),(12,.box (sgE (msS m)) 90),(13,.box [.str s,.own 44] 69),(44,.row sgE (S1) 90 17)]⟩) yi ?_;refine kW [⟨0,111,.ptr 13 0 0 (0+1),[]⟩,⟨2,113,sgsA x,[]⟩,⟨3,114,sgsA R1,[]⟩,⟨4,115,iv (R1.length:Int),[3]⟩,⟨5,116,sgsA (x.drop ((R1.length:Nat):Int).toNat),[3,4,2]⟩,⟨7,118,.ptr 13 0 0 (0+1),[6,5,4,3,2,1,0]⟩] [(1,[0]),(6,[3,4,2,0,5,1]),(8,[5,4,3,2,1,0,6,7])] (λj=>match j with|0=>⟨[(0,.str s),(5,.ptr 5 0 0 0),(7,.ptr 7 0 0 0),(8,.ptr 8 0 0 0),(10,blsA L),(12,.ptr 12 0 0 0),(13,.ptr 13 0 0 0),(16,iv (k:Int)),(14,sgsA R1),(19,btsA B1),(20,sgsA x)],[(5,.box (mnE m) 23),(7,.box (hbE h) 32),(8,.box [.str ⟨#[]⟩,.nils] 69),(12,.box (sgE (msS m)) 90),(13,.box [.str s,.own 44] 69),(44,.row sgE (S1) 90 17)]⟩|1=>⟨[(0,.str s),(5,.ptr 5 0 0 0),(7,.ptr 7 0 0 0),(8,.ptr 8 0 0 0),(10,blsA L),(12,.ptr 12 0 0 0),(13,.ptr 13 0 0 0),(16,iv (k:Int)),(14,sgsA R1),(19,btsA B1),(20,sgsA x),(112,.own 44)],[(5,.box (mnE m) 23),(7,.box (hbE h) 32),(8,.box [.str ⟨#[]⟩,.nils] 69),(12,.box (sgE (msS m)) 90),(13,.box [.str s,.own 44] 69),(44,.row sgE (S1) 90 17)]⟩|2=>⟨[(0,.str s),(5,.ptr 5 0 0 0),(7,.ptr 7 0 0 0),(8,.ptr 8 0 0 0),(10,blsA L),(12,.ptr 12 0 0 0),(13,.ptr 13 0 0 0),(16,iv (k:Int)),(14,sgsA R1),(19,btsA B1),(20,sgsA x),(117,.own 44)],[(5,.box (mnE m) 23),(7,.box (hbE h) 32),(8,.box [.str ⟨#[]⟩,.nils] 69),(12,.box (sgE (msS m)) 90),(13,.box [.str s,.any] 69),(44,.row sgE (S1++x.drop ((R1.length:Nat):Int).toNat) 90 17)]⟩|_=>⟨[(0,.str s),(5,.ptr 5 0 0 0),(7,.ptr 7 0 0 0),(8,.ptr 8 0 0 0),(10,blsA L),(12,.ptr 12 0 0 0),(13,.ptr 13 0 0 0),(16,iv (k:Int)),(14,sgsA R1),(19,btsA B1),(20,sgsA x)],[(5,.box (mnE m) 23),(7,.box (hbE h) 32),(8,.box [.str ⟨#[]⟩,.nils] 69),(12,.box (sgE (msS m)) 90),(13,.box [.str s,.own 44] 69),(44,.row sgE (S1++x.drop ((R1.length:Nat):Int).toNat) 90 17)]⟩) mo (by kernel_rfl) (zg (yd)) (λj hj=>?_) (λj c V β hβ=>?_) ?_
   ·rcases j with _|_|_|_|j
    ·iterate 4 refine⟨.inr ⟨_,rfl,rfl,rfl,rfl,k8 yJ⟩,?_⟩
     first
      |refine⟨.inr ⟨_,rfl,rfl,rfl,rfl,k8 (zf rfl rfl rfl sl33 ty90 (by omega) (by omega))⟩,?_⟩
      |refine⟨.inr ⟨_,rfl,rfl,rfl,rfl,k8 (zp rfl rfl sl33 ty90 (λ_=>rfl) (by omega) (by omega))⟩,?_⟩
     exact yw
    ·refine⟨.inl rfl,?_⟩;iterate 3 refine⟨.inr ⟨_,rfl,rfl,rfl,rfl,k8 yJ⟩,?_⟩
     first
      |refine⟨.inr ⟨_,rfl,rfl,rfl,rfl,k8 (zf rfl rfl rfl sl33 ty90 (by omega) (by omega))⟩,?_⟩
      |refine⟨.inr ⟨_,rfl,rfl,rfl,rfl,k8 (zp rfl rfl sl33 ty90 (λ_=>rfl) (by omega) (by omega))⟩,?_⟩
     exact yw
    ·exact yw
    ·exact yw
    ·exact absurd (show j+4<=3 from hj) (by omega)
   ·rcases j with _|_|_|j
    ·obtain rfl:(1,[0])=c:=by injection V
     refine yo rfl (yn (st0:=⟨[(111,.ptr 13 0 0 (0+1)),(113,.ifb (β 2) (sgsA x)),(114,.ifb (β 3) (sgsA R1)),(115,.ifb (β 4) (iv (R1.length:Int))),(116,.ifb (β 5) (sgsA (x.drop ((R1.length:Nat):Int).toNat))),(118,.ifb (β 7) (.ptr 13 0 0 (0+1))),(0,.str s),(5,.ptr 5 0 0 0),(7,.ptr 7 0 0 0),(8,.ptr 8 0 0 0),(10,blsA L),(12,.ptr 12 0 0 0),(13,.ptr 13 0 0 0),(16,iv (k:Int)),(14,sgsA R1),(19,btsA B1),(20,sgsA x)],[(5,.box (mnE m) 23),(7,.box (hbE h) 32),(8,.box [.str ⟨#[]⟩,.nils] 69),(12,.box (sgE (msS m)) 90),(13,.box [.str s,.own 44] 69),(44,.row sgE (S1) 90 17)]⟩) (yl) ?_);refine yC.imp (yK (k8 yJ) rfl rfl) (yl)
    ·obtain rfl:(6,[3,4,2,0,5,1])=c:=by injection V
     refine yo rfl (yn (st0:=⟨[(111,.ptr 13 0 0 (0+1)),(113,sgsA x),(114,sgsA R1),(115,iv (R1.length:Int)),(116,sgsA (x.drop ((R1.length:Nat):Int).toNat)),(118,.ifb (β 7) (.ptr 13 0 0 (0+1))),(0,.str s),(5,.ptr 5 0 0 0),(7,.ptr 7 0 0 0),(8,.ptr 8 0 0 0),(10,blsA L),(12,.ptr 12 0 0 0),(13,.ptr 13 0 0 0),(16,iv (k:Int)),(14,sgsA R1),(19,btsA B1),(20,sgsA x),(112,.own 44)],[(5,.box (mnE m) 23),(7,.box (hbE h) 32),(8,.box [.str ⟨#[]⟩,.nils] 69),(12,.box (sgE (msS m)) 90),(13,.box [.str s,.own 44] 69),(44,.row sgE (S1) 90 17)]⟩) (yl) ?_);refine yC.imp (y6 (l2:=x.drop ((R1.length:Nat):Int).toNat) rfl rfl rfl sl33 ti90 (by decide) (by decide) (λ_=>rfl) (λ_=>rfl) (by rw[wM];omega) rfl) (yl)
    ·obtain rfl:(8,[5,4,3,2,1,0,6,7])=c:=by injection V
     refine yo rfl (yn (st0:=⟨[(111,.ptr 13 0 0 (0+1)),(113,sgsA x),(114,sgsA R1),(115,iv (R1.length:Int)),(116,sgsA (x.drop ((R1.length:Nat):Int).toNat)),(118,.ptr 13 0 0 (0+1)),(0,.str s),(5,.ptr 5 0 0 0),(7,.ptr 7 0 0 0),(8,.ptr 8 0 0 0),(10,blsA L),(12,.ptr 12 0 0 0),(13,.ptr 13 0 0 0),(16,iv (k:Int)),(14,sgsA R1),(19,btsA B1),(20,sgsA x),(117,.own 44)],[(5,.box (mnE m) 23),(7,.box (hbE h) 32),(8,.box [.str ⟨#[]⟩,.nils] 69),(12,.box (sgE (msS m)) 90),(13,.box [.str s,.any] 69),(44,.row sgE (S1++x.drop ((R1.length:Nat):Int).toNat) 90 17)]⟩) (yl) ?_);refine yC.imp (z6 rfl rfl rfl rfl TyK.h (by simp)) (yl)
    ·exact absurd V (by simp)
   refine gq ?_;refine yz (k+1) (hJ:=by exact⟨by omega,xT⟩) (hI:=yi)
 ·obtain rfl:k=L.length:=by omega
  have U:=k2.fin;rw[←J]at U;refine gd ?_ ?_<;>intro hc8
  ·rw[J]at U;rw[←J]at U;have hE:=zx8 c0 e0 I U (by rw[J];omega);have k4:=zhG (s:=s) (m:=m) (l:=l) (h:=h) (by rw[hE];decide);obtain⟨hN,Z⟩:=k4;apply ye;refine ya ?_;refine kK ?_;refine yh ?_;refine kE ?_;refine kA (kY (ts:=[(8,.ptr 8 0 0 0),(9,iv 11)]) (hs:=[(8,.box [.str ⟨#[]⟩,sgsA []] 69)]) ⟨⟨_,rfl,kH _⟩,⟨_,rfl,kH _⟩,True.intro⟩ ⟨⟨_,rfl,bC (.cons (kH _) (.cons (kP _) .nil))⟩,True.intro⟩) ?_;refine yr ty69 ?_ ?_;all_goals(first|(rw[hN,Z];done)|exact zE hE)
  have k3:=zx9 c0 e0 I U (by rw[J];omega);obtain⟨hE,hN,Z⟩:=k3;rw[J]at Z;apply yk;apply yf;refine kJ (st':=⟨[(8,.ptr 8 0 0 0),(13,.ptr 13 0 0 0)],[(8,.box [.str ⟨#[]⟩,.nils] 69),(13,.box [.str s,sgsA (ptS m h L L.length).1] 69)]⟩) ((k9 (k:=44) rfl).trans yd) ?_;refine gq ?_;refine yr ty69 ?_ ?_;all_goals(first|(rw[hN,Z];done)|exact zE hE|(rw[hN,Z];rfl))
end Go.Rse
