/-
  Walks.
-/
import Derived.Test.YtbopkhoalndflaaGreatDoorYRef23q
set_option linter.all false
namespace Go.Rse
open Go Go.Proofs Go.Proofs.Tryz
section
section
variable{P:Program}{C:Ctx}{st:St}{ty:TypeId}
def zsp{fop:Operand}{args:Array Operand}{ts:Array TypeId}{f:FuncId}{caps xs az:List AV}{α:Type}{enc:α->List AV}{l:List α}{E s:Nat}{stF:St}(k:Nat)(hi:Imp C st stF)(h:FnOW P f az enc l E s λ_ _ _=>True)
 (Z:∀x,AV.flat.flatL (enc x)=true)(hf:ev stF fop=some (.fn f caps))(hx:evs stF args.toList=some xs)(V:LeL (xs++caps) az):
 yA P C (.call {callee:=.value fop,args:=args,argTypes:=ts}) ty st (.own k) (some (k,.row enc l E s)):=
 A_lendO (ι:=Unit) (stF:=λ_=>stF) (caps:=λ_=>caps) (xs:=λ_=>xs) (az:=λ_=>az) k (λg a w hr=>zmz hi hr) (λ_=>h) Z (λ_=>hf) (λ_=>hx) (λ_=>V)
end
attribute [local irreducible] Pur yA yC Ex X Fn Imp LeV LeB FnO It yH FnW FnOW FnP FnD
attribute [local irreducible] wcE wcnE wcnV blE blV ptS ptK paE paN paV nmQ bsB srV chV durB
def ziu(l:List Bt)(hl:l.length<=4000000000):FnO prog 80 [btsA l] [] [] (.own 5) [(5,.row tmE (durB l) 83 2)]:=by
 have V:[]=durB (l.take 0):=by unfold durB;rfl
 refine bF (ts:=[(0,btsA l)]) (rv:=[.tmp 2]) (n:=19) (cs:=[]) (by kernel_rfl) func80 rfl ntmps80 rfl rfl (by simp) rfl rfl rfl rfl (λg w d vs=>?_);apply ye;refine ya ?_;apply yG;refine yh ?_;iterate 2 apply yf
 refine kJ (yI tmE 83 2 3 30 rfl rfl) ?_;apply yj;refine yE ?_;apply kB;refine zu (λk=>[(6,btsA l),(7,iv (l.length:Int)),(8,iv (k:Int)),(3,.own 30)]) (λk=>[(kN,.hold vs []),(30,.row tmE (durB (l.take k)) 83 2)]) l.length (λk J=>?_);refine gd ?_ ?_<;>intro U
 ·obtain⟨b,Z⟩:∃b,l[k]? =some b:=⟨_,lgg (by omega)⟩;have T:l[(k:Int).toNat]? =some b:=by simpa using Z
  have Q:=zk5 Z;have N:(durB (l.take k)).length<=l.length:=by rw[zeG,jM];omega
  refine gq ?_;refine yD tmE [b.Dur] ?_;refine gq ?_;refine yz (k+1) (hI:=yi)
 ·obtain rfl:k=l.length:=by omega
  have I:durB (l.take l.length)=durB l:=by rw[jH]
  apply kO;apply yf;refine kJ (st':=⟨[(3,.own 30)],[(kN,.hold vs []),(30,.row tmE (durB l) 83 2)]⟩) yi ?_;refine kJ (bD 30 5 rfl rfl) ?_;refine kJ (st':=⟨[(3,.own 5)],[(kN,.hold vs []),(5,.row tmE (durB l) 83 2)]⟩) yi ?_;apply yj;refine yO ?_;refine kE ?_;refine zou.mk (ts:=[(2,.own 5)]) (.inr rfl) (yd) (.one (.tmp rfl (kC rfl)))
def zbe(l:List Bt)(hl:l.length<=4000000):FnO prog 105 [btsA l] [] [] (.own 5) [(5,.row btE l 100 3)]:=by
 refine bF (ts:=[(0,btsA l)]) (rv:=[.tmp 2]) (n:=8) (cs:=[]) (by kernel_rfl) func105 rfl ntmps105 rfl rfl (by simp) rfl rfl rfl rfl (λg w d vs=>?_);apply ye;refine yh ?_;apply yf;apply ye;refine ya ?_;refine Ex.eqNil rfl sl24 rfl (λb U=>?_);refine gd ?_ ?_<;>intro Z
 ·have V:=U Z;subst V;subst Z;apply ye;refine yh ?_;refine kE ?_;refine zou.imp (yI btE 100 3 2 5 rfl rfl) ?_;refine zou.mk (ts:=[(2,.own 5)]) (.inr rfl) (yd) (.one (.tmp rfl (kC rfl)))
 refine gq ?_;refine yD btE [] ?_;refine ya ?_;refine kK ?_;refine yh ?_;refine kE ?_;refine zou.mk (ts:=[(2,.own 5)]) (.inr rfl) (yd) (.one (.tmp rfl (kC rfl)))
set_option maxHeartbeats 16000000 in
set_option maxRecDepth 100000 in
def zkL(s:ByteArray)(m:Mn)(l:List Bt)(h:Hb)(hs:s.size<=1000000)(hl:l.length<=1000000):Fn prog 50 [.str s,mnA m,btsA l,hbA h] (.tup [.agg [.str (paN s m l h),sgsA (paV s m l h)],iv (paE s m l h)]):=by
 have x3:=zcV m l hl;have x2:blE m l=0->(∀b∈blV m l,1<=b.length)/\(blV m l).flatten=l:=λe=>zit e
 have j0:=zda (blV m l);obtain⟨L,N⟩:=j0;rw[N]at x3 x2;refine kF func50 ntmps50 (λg w d=>?_);refine gc (zkK s hs) ?_;refine gd ?_ ?_<;>intro x1
 ·have hE:=zx5 (m:=m) (l:=l) (h:=h) (s:=s) x1;have hZ:=zhG (s:=s) (m:=m) (l:=l) (h:=h) (by rw[hE];decide);obtain⟨hN,Z⟩:=hZ;apply ye;refine ya ?_;refine kK ?_;refine yh ?_;refine kE ?_;refine kA (kY (ts:=[(8,.ptr 8 0 0 0),(9,iv 7)]) (hs:=[(8,.box [.str ⟨#[]⟩,sgsA []] 69)]) ⟨⟨_,rfl,kH _⟩,⟨_,rfl,kH _⟩,True.intro⟩ ⟨⟨_,rfl,bC (.cons (kH _) (.cons (kP _) .nil))⟩,True.intro⟩) ?_;refine yr ty69 ?_ ?_;all_goals(first|(rw[hN,Z];done)|exact zE hE)
 have c0:nmQ (bsB s)=true:=x1;refine gc x3 ?_;refine gd ?_ ?_<;>intro x0
 ·have hE:=zx6 (h:=h) c0 x0;have hY:=zhG (s:=s) (m:=m) (l:=l) (h:=h) (by rw[hE];exact x0);obtain⟨hN,Z⟩:=hY;apply ye;iterate 2 refine ya ?_
  refine kK ?_;refine yh ?_;refine kE ?_;refine kA (kY (ts:=[(8,.ptr 8 0 0 0),(9,iv (blE m l))]) (hs:=[(8,.box [.str ⟨#[]⟩,sgsA []] 69)]) ⟨⟨_,rfl,kH _⟩,⟨_,rfl,kH _⟩,True.intro⟩ ⟨⟨_,rfl,bC (.cons (kH _) (.cons (kP _) .nil))⟩,True.intro⟩) ?_;refine yr ty69 ?_ ?_;all_goals(first|(rw[hN,Z];done)|exact zE hE)
 have e0:blE m l=0:=by omega
 refine gd ?_ ?_<;>intro h5
 ·have hE:=zx7 (h:=h) c0 e0 (by omega);have hX:=zhG (s:=s) (m:=m) (l:=l) (h:=h) (by rw[hE];decide);obtain⟨hN,Z⟩:=hX;apply ye;refine ya ?_;refine kK ?_;refine yh ?_;refine kE ?_;refine kA (kY (ts:=[(8,.ptr 8 0 0 0),(9,iv 11)]) (hs:=[(8,.box [.str ⟨#[]⟩,sgsA []] 69)]) ⟨⟨_,rfl,kH _⟩,⟨_,rfl,kH _⟩,True.intro⟩ ⟨⟨_,rfl,bC (.cons (kH _) (.cons (kP _) .nil))⟩,True.intro⟩) ?_;refine yr ty69 ?_ ?_;all_goals(first|(rw[hN,Z];done)|exact zE hE)
 have J:l.length<=60:=by omega
 refine gq ?_;refine yD sgE [msS m] ?_;refine ya ?_;apply yG;refine ya ?_;apply yG;refine yh ?_;iterate 2 apply yf
 have V:=x2 e0;have hW:=zkJ V.1;rw[V.2]at hW;refine kJ (st':=⟨[(0,.str s),(5,.ptr 5 0 0 0),(7,.ptr 7 0 0 0),(8,.ptr 8 0 0 0),(10,blsA L),(12,.ptr 12 0 0 0),(13,.own 43),(14,sgsA []),(15,.nils)],[(5,.box (mnE m) 23),(7,.box (hbE h) 32),(8,.box [.str ⟨#[]⟩,.nils] 69),(12,.box (sgE (msS m)) 90),(43,.row sgE [msS m] 90 17)]⟩) yi ?_;refine kJ (yI btE 100 3 15 30 rfl rfl) ?_;have hU:=zve m h L;obtain⟨h4,hz2,hz3⟩:=hU;apply yj;refine yE ?_;apply kB;refine zM (λk=>[(0,.str s),(5,.ptr 5 0 0 0),(7,.ptr 7 0 0 0),(8,.ptr 8 0 0 0),(12,.ptr 12 0 0 0),(13,.own 43),(44,blsA L),(45,iv (L.length:Int)),(46,iv (k:Int)),(14,sgsA (ptS m h L k).2.1),(15,.own 30)]) (λk=>[(5,.box (mnE m) 23),(7,.box (hbE h) 32),(8,.box [.str ⟨#[]⟩,.nils] 69),(12,.box (sgE (msS m)) 90),(43,.row sgE ((ptS m h L k).1) 90 17),(30,.row btE ((ptS m h L k).2.2) 100 3)]) (λk=>k<=L.length/\PtJ m h L k) L.length (λk hk=>?_) (hJ:=by exact⟨w7 _,zuB _ _ _⟩);obtain⟨k1,k2⟩:=hk;refine gd ?_ ?_<;>intro hc4
 ·obtain⟨b,I⟩:∃b,L[k]? =some b:=⟨_,lgg (by omega)⟩;have hb2:L[(k:Int).toNat]? =some b:=by simpa using I
  have hb1:=V.1 b (j6 I);have q1:=k2.r;have q2:=k2.b;have q3:=k2.s;have q4:=zl0 V.2 k;have q5:=zl0 V.2 (k+1);rw[(zg8 I).2.2,jE]at q5;refine gc (zfE m b h (by omega)) ?_;refine gd ?_ ?_<;>intro E
  ·have U:=k2.err I E;rw[←N]at U;have hE:=zso c0 e0 J U E;have hT:=zhG (s:=s) (m:=m) (l:=l) (h:=h) (by rw[hE];exact E);obtain⟨hN,Z⟩:=hT;apply ye;(iterate 2 refine ya ?_);refine kK ?_;refine yh ?_;refine kE ?_;refine kA (kY (ts:=[(8,.ptr 8 0 0 0),(9,iv (wcnE m b h))]) (hs:=[(8,.box [.str ⟨#[]⟩,sgsA []] 69)]) ⟨⟨_,rfl,kH _⟩,⟨_,rfl,kH _⟩,True.intro⟩ ⟨⟨_,rfl,bC (.cons (kH _) (.cons (kP _) .nil))⟩,True.intro⟩) ?_;refine yr ty69 ?_ ?_;all_goals(first|(rw[hN,Z];done)|exact zE hE)
  have w0:wcnE m b h=0:=by omega
  have H:=zkR m b h;have G:=zd0 m b h;have w2:=zkQ (m:=m) (D:=durB ((ptS m h L k).2.2++b)) (run:=(ptS m h L k).2.1) H (by rw[G];omega);have v9:=zkQ (m:=m) (D:=durB b) (run:=[]) H (by rw[G];simp only[wK];omega);refine gq ?_;refine yP (zd7 m b h (by omega)) ?_;refine ya ?_;apply yG;iterate 2 refine ya ?_
  refine kK ?_;refine yh ?_;apply yf;refine kJ (st':=⟨[(0,.str s),(5,.ptr 5 0 0 0),(7,.ptr 7 0 0 0),(8,.ptr 8 0 0 0),(12,.ptr 12 0 0 0),(13,.own 43),(44,blsA L),(45,iv (L.length:Int)),(46,iv (k:Int)),(14,sgsA (ptS m h L k).2.1),(15,.own 30),(17,btsA b),(20,chsA (chV m b h))],[(5,.box (mnE m) 23),(7,.box (hbE h) 32),(8,.box [.str ⟨#[]⟩,.nils] 69),(12,.box (sgE (msS m)) 90),(43,.row sgE ((ptS m h L k).1) 90 17),(30,.row btE ((ptS m h L k).2.2++b) 100 3)]⟩) yi ?_;refine kW [⟨0,68,mnA m,[]⟩,⟨1,69,.own 30,[]⟩,⟨3,71,chsA (chV m b h),[]⟩,⟨4,72,sgsA (ptS m h L k).2.1,[]⟩] [(2,[1]),(5,[1,4,3,2,0]),(6,[4,3,2,1,0,5])] (λj=>match j with|0=>⟨[(0,.str s),(5,.ptr 5 0 0 0),(7,.ptr 7 0 0 0),(8,.ptr 8 0 0 0),(12,.ptr 12 0 0 0),(13,.own 43),(44,blsA L),(45,iv (L.length:Int)),(46,iv (k:Int)),(14,sgsA (ptS m h L k).2.1),(15,.own 30),(17,btsA b),(20,chsA (chV m b h))],[(5,.box (mnE m) 23),(7,.box (hbE h) 32),(8,.box [.str ⟨#[]⟩,.nils] 69),(12,.box (sgE (msS m)) 90),(43,.row sgE ((ptS m h L k).1) 90 17),(30,.row btE ((ptS m h L k).2.2++b) 100 3)]⟩|1=>⟨[(0,.str s),(5,.ptr 5 0 0 0),(7,.ptr 7 0 0 0),(8,.ptr 8 0 0 0),(12,.ptr 12 0 0 0),(13,.own 43),(44,blsA L),(45,iv (L.length:Int)),(46,iv (k:Int)),(14,sgsA (ptS m h L k).2.1),(15,.own 30),(17,btsA b),(20,chsA (chV m b h)),(70,tmsA (durB ((ptS m h L k).2.2++b)))],[(5,.box (mnE m) 23),(7,.box (hbE h) 32),(8,.box [.str ⟨#[]⟩,.nils] 69),(12,.box (sgE (msS m)) 90),(43,.row sgE ((ptS m h L k).1) 90 17),(30,.row btE ((ptS m h L k).2.2++b) 100 3)]⟩|2=>⟨[(0,.str s),(5,.ptr 5 0 0 0),(7,.ptr 7 0 0 0),(8,.ptr 8 0 0 0),(12,.ptr 12 0 0 0),(13,.own 43),(44,blsA L),(45,iv (L.length:Int)),(46,iv (k:Int)),(14,sgsA (ptS m h L k).2.1),(15,.own 30),(17,btsA b),(20,chsA (chV m b h)),(73,nlA sgE (srV m (durB ((ptS m h L k).2.2++b)) (chV m b h) (ptS m h L k).2.1))],[(5,.box (mnE m) 23),(7,.box (hbE h) 32),(8,.box [.str ⟨#[]⟩,.nils] 69),(12,.box (sgE (msS m)) 90),(43,.row sgE ((ptS m h L k).1) 90 17),(30,.row btE ((ptS m h L k).2.2++b) 100 3)]⟩|_=>⟨[(0,.str s),(5,.ptr 5 0 0 0),(7,.ptr 7 0 0 0),(8,.ptr 8 0 0 0),(12,.ptr 12 0 0 0),(13,.own 43),(44,blsA L),(45,iv (L.length:Int)),(46,iv (k:Int)),(14,sgsA (ptS m h L k).2.1),(15,.own 30),(17,btsA b),(20,chsA (chV m b h)),(21,nlA sgE (srV m (durB ((ptS m h L k).2.2++b)) (chV m b h) (ptS m h L k).2.1))],[(5,.box (mnE m) 23),(7,.box (hbE h) 32),(8,.box [.str ⟨#[]⟩,.nils] 69),(12,.box (sgE (msS m)) 90),(43,.row sgE ((ptS m h L k).1) 90 17),(30,.row btE ((ptS m h L k).2.2++b) 100 3)]⟩) mo (by kernel_rfl) (zg (yd)) (λj hj=>?_) (λj c hc β hβ=>?_) ?_
  ·rcases j with _|_|_|_|j
   ·exact yw
   ·exact yw
   ·exact yw
   ·exact yw
   ·exact absurd (show j+4<=3 from hj) (by omega)
  ·rcases j with _|_|_|j
   ·obtain rfl:(2,[1])=c:=by injection hc
    refine yo rfl (yn (st0:=⟨[(68,.ifb (β 0) (mnA m)),(69,.own 30),(71,.ifb (β 3) (chsA (chV m b h))),(72,.ifb (β 4) (sgsA (ptS m h L k).2.1)),(0,.str s),(5,.ptr 5 0 0 0),(7,.ptr 7 0 0 0),(8,.ptr 8 0 0 0),(12,.ptr 12 0 0 0),(13,.own 43),(44,blsA L),(45,iv (L.length:Int)),(46,iv (k:Int)),(14,sgsA (ptS m h L k).2.1),(15,.own 30),(17,btsA b),(20,chsA (chV m b h))],[(5,.box (mnE m) 23),(7,.box (hbE h) 32),(8,.box [.str ⟨#[]⟩,.nils] 69),(12,.box (sgE (msS m)) 90),(43,.row sgE ((ptS m h L k).1) 90 17),(30,.row btE ((ptS m h L k).2.2++b) 100 3)]⟩) (yl) ?_);refine yC.imp (yC.imp (yK (zsp 70 (k9 (k:=30) rfl) (ziu ((ptS m h L k).2.2++b) (by rw[jE];omega)).ow (λ_=>rfl) rfl rfl (kS _)) rfl rfl) (k9 (k:=70) rfl)) (yl)
   ·obtain rfl:(5,[1,4,3,2,0])=c:=by injection hc
    refine yo rfl (yn (st0:=⟨[(68,mnA m),(69,.own 30),(71,chsA (chV m b h)),(72,sgsA (ptS m h L k).2.1),(0,.str s),(5,.ptr 5 0 0 0),(7,.ptr 7 0 0 0),(8,.ptr 8 0 0 0),(12,.ptr 12 0 0 0),(13,.own 43),(44,blsA L),(45,iv (L.length:Int)),(46,iv (k:Int)),(14,sgsA (ptS m h L k).2.1),(15,.own 30),(17,btsA b),(20,chsA (chV m b h)),(70,tmsA (durB ((ptS m h L k).2.2++b)))],[(5,.box (mnE m) 23),(7,.box (hbE h) 32),(8,.box [.str ⟨#[]⟩,.nils] 69),(12,.box (sgE (msS m)) 90),(43,.row sgE ((ptS m h L k).1) 90 17),(30,.row btE ((ptS m h L k).2.2++b) 100 3)]⟩) (yl) ?_);refine yC.imp (yK (zT rfl rfl rfl (kS _) (zcN m (durB ((ptS m h L k).2.2++b)) _ (chV m b h) (ptS m h L k).2.1 rfl H (by rw[G];omega))) rfl rfl) (yl)
   ·obtain rfl:(6,[4,3,2,1,0,5])=c:=by injection hc
    refine yo rfl (yn (st0:=⟨[(68,mnA m),(69,.own 30),(71,chsA (chV m b h)),(72,sgsA (ptS m h L k).2.1),(0,.str s),(5,.ptr 5 0 0 0),(7,.ptr 7 0 0 0),(8,.ptr 8 0 0 0),(12,.ptr 12 0 0 0),(13,.own 43),(44,blsA L),(45,iv (L.length:Int)),(46,iv (k:Int)),(14,sgsA (ptS m h L k).2.1),(15,.own 30),(17,btsA b),(20,chsA (chV m b h)),(73,nlA sgE (srV m (durB ((ptS m h L k).2.2++b)) (chV m b h) (ptS m h L k).2.1))],[(5,.box (mnE m) 23),(7,.box (hbE h) 32),(8,.box [.str ⟨#[]⟩,.nils] 69),(12,.box (sgE (msS m)) 90),(43,.row sgE ((ptS m h L k).1) 90 17),(30,.row btE ((ptS m h L k).2.2++b) 100 3)]⟩) (yl) ?_);refine yC.imp (yK (k8 yJ) rfl rfl) (yl)
   ·exact absurd hc (by simp)
  iterate 2 apply yf
  refine kJ (st':=⟨[(0,.str s),(5,.ptr 5 0 0 0),(7,.ptr 7 0 0 0),(8,.ptr 8 0 0 0),(12,.ptr 12 0 0 0),(13,.own 43),(44,blsA L),(45,iv (L.length:Int)),(46,iv (k:Int)),(14,sgsA (ptS m h L k).2.1),(15,.own 30),(17,btsA b),(20,chsA (chV m b h)),(21,nlA sgE (srV m (durB ((ptS m h L k).2.2++b)) (chV m b h) (ptS m h L k).2.1))],[(5,.box (mnE m) 23),(7,.box (hbE h) 32),(8,.box [.str ⟨#[]⟩,.nils] 69),(12,.box (sgE (msS m)) 90),(43,.row sgE ((ptS m h L k).1) 90 17),(30,.row btE ((ptS m h L k).2.2++b) 100 3)]⟩) yi ?_;apply yj;refine ya ?_;refine zz (zqY Tryz.underlying33 rfl w2) rfl ?_;refine gd ?_ ?_<;>intro v8
  ·have hn:srV m (durB ((ptS m h L k).2.2++b)) (chV m b h) (ptS m h L k).2.1=none:=by simpa using v8
   apply yf;refine kJ (st':=⟨[(0,.str s),(5,.ptr 5 0 0 0),(7,.ptr 7 0 0 0),(8,.ptr 8 0 0 0),(12,.ptr 12 0 0 0),(13,.own 43),(44,blsA L),(45,iv (L.length:Int)),(46,iv (k:Int)),(14,sgsA (ptS m h L k).2.1),(15,.own 30),(17,btsA b),(20,chsA (chV m b h))],[(5,.box (mnE m) 23),(7,.box (hbE h) 32),(8,.box [.str ⟨#[]⟩,.nils] 69),(12,.box (sgE (msS m)) 90),(43,.row sgE ((ptS m h L k).1) 90 17),(30,.row btE ((ptS m h L k).2.2++b) 100 3)]⟩) yi ?_;refine gq ?_;refine yD sgE [msS m] ?_;refine gq ?_;refine zV [(5,81)] (zbe b (by omega)) ?_;refine yO ?_;apply yf;refine kJ (st':=⟨[(0,.str s),(5,.ptr 5 0 0 0),(7,.ptr 7 0 0 0),(8,.ptr 8 0 0 0),(12,.ptr 12 0 0 0),(13,.own 43),(44,blsA L),(45,iv (L.length:Int)),(46,iv (k:Int)),(14,sgsA []),(15,.own 81),(17,btsA b),(20,chsA (chV m b h))],[(5,.box (mnE m) 23),(7,.box (hbE h) 32),(8,.box [.str ⟨#[]⟩,.nils] 69),(12,.box (sgE (msS m)) 90),(43,.row sgE ((ptS m h L k).1++[msS m]) 90 17),(81,.row btE b 100 3)]⟩) yi ?_;refine kJ (bD 81 30 rfl rfl) ?_;refine kJ (st':=⟨[(0,.str s),(5,.ptr 5 0 0 0),(7,.ptr 7 0 0 0),(8,.ptr 8 0 0 0),(12,.ptr 12 0 0 0),(13,.own 43),(44,blsA L),(45,iv (L.length:Int)),(46,iv (k:Int)),(14,sgsA []),(15,.own 30),(17,btsA b),(20,chsA (chV m b h))],[(5,.box (mnE m) 23),(7,.box (hbE h) 32),(8,.box [.str ⟨#[]⟩,.nils] 69),(12,.box (sgE (msS m)) 90),(43,.row sgE ((ptS m h L k).1++[msS m]) 90 17),(30,.row btE (b) 100 3)]⟩) yi ?_;refine yW [21,82,83,84,85,86] [0,0,2,0,15,31] mo ?_;(iterate 2 refine yb ?_);refine yL (zdZ b (by omega)) ?_;refine yb ?_;refine ChM.step rfl rfl rfl (zT rfl rfl rfl (.cons (kH _) (.cons (kH _) (.cons (kH _) (.cons (kP _) .nil)))) (zcN m (durB b) _ (chV m b h) [] rfl H (by rw[G];simp only[wK];omega))) rfl ?_;refine yb ?_;refine yF ?_;apply yG;refine ya ?_;refine zz (zqY Tryz.underlying33 rfl v9) rfl ?_;refine gd ?_ ?_<;>intro v5
   ·have hQ:srV m (durB b) (chV m b h) []=none:=by simpa using v5
    have U:=k2.no I w0 hn hQ;rw[←N]at U;have hE:=zso c0 e0 J U (by decide);have hP:=zhG (s:=s) (m:=m) (l:=l) (h:=h) (by rw[hE];decide);obtain⟨hN,Z⟩:=hP;apply ye;refine ya ?_;refine kK ?_;refine yh ?_;refine kE ?_;refine kA (kY (ts:=[(8,.ptr 8 0 0 0),(9,iv 18)]) (hs:=[(8,.box [.str ⟨#[]⟩,sgsA []] 69)]) ⟨⟨_,rfl,kH _⟩,⟨_,rfl,kH _⟩,True.intro⟩ ⟨⟨_,rfl,bC (.cons (kH _) (.cons (kP _) .nil))⟩,True.intro⟩) ?_;refine yr ty69 ?_ ?_;all_goals(first|(rw[hN,Z];done)|exact zE hE)
   have hM:=wE.1 (show(srV m (durB b) (chV m b h) []).isSome=true by simpa using v5);obtain⟨x,hx⟩:=hM;have hG:nlA sgE (srV m (durB b) (chV m b h) [])=sgsA x:=by rw[hx];rfl
   have xT:=k2.s2 I w0 hn hx;have hS:=zqd I hn hx;have v4:=zg9 hx;rw[wK]at v4;have hC:=zda (([]:List Sg));obtain⟨R1,T⟩:=hC;have v3:=zda ((ptS m h L k).1++[msS m]);obtain⟨S1,Q⟩:=v3;have v1:=zda (b);obtain⟨B1,x4⟩:=v1;have v0:S1++x.drop ((R1.length:Nat):Int).toNat=(ptS m h L (k+1)).1:=by rw[hS,←T,←Q];rfl
   have u4:x=(ptS m h L (k+1)).2.1:=by rw[hS]
   have u3:B1=(ptS m h L (k+1)).2.2:=by rw[hS,←x4]
   have h9:R1.length=0:=by rw[←T];rfl
   have h8:S1.length=(ptS m h L k).1.length+1:=by rw[←Q,jE];rfl
   apply yk;apply yf;refine kJ (st':=⟨[(0,.str s),(5,.ptr 5 0 0 0),(7,.ptr 7 0 0 0),(8,.ptr 8 0 0 0),(12,.ptr 12 0 0 0),(13,.own 43),(44,blsA L),(45,iv (L.length:Int)),(46,iv (k:Int)),(14,sgsA R1),(15,.own 30),(21,sgsA x)],[(5,.box (mnE m) 23),(7,.box (hbE h) 32),(8,.box [.str ⟨#[]⟩,.nils] 69),(12,.box (sgE (msS m)) 90),(43,.row sgE (S1) 90 17),(30,.row btE (B1) 100 3)]⟩) yi ?_;refine gq ?_
   first
    |refine zz (zf rfl rfl rfl sl33 ty90 (by omega) (by omega)) rfl ?_
    |refine zz (zp rfl rfl sl33 ty90 (λ_=>rfl) (by omega) (by omega)) rfl ?_
   refine zaf (y6 (l:=S1) (l2:=x.drop ((R1.length:Nat):Int).toNat) rfl rfl rfl SlK.h TiK.h (by decide) (by decide) (λ_=>rfl) (λ_=>rfl) (by rw[wM];omega) rfl) ?_;refine yh ?_;apply yj;refine yO ?_;refine kJ (st':=⟨[(0,.str s),(5,.ptr 5 0 0 0),(7,.ptr 7 0 0 0),(8,.ptr 8 0 0 0),(12,.ptr 12 0 0 0),(13,.own 43),(44,blsA L),(45,iv (L.length:Int)),(46,iv (k:Int)),(14,sgsA x),(15,.own 30)],[(5,.box (mnE m) 23),(7,.box (hbE h) 32),(8,.box [.str ⟨#[]⟩,.nils] 69),(12,.box (sgE (msS m)) 90),(43,.row sgE (S1++x.drop ((R1.length:Nat):Int).toNat) 90 17),(30,.row btE (B1) 100 3)]⟩) yi ?_;refine gq ?_;refine yz (k+1) (hJ:=by exact⟨by omega,xT⟩) (hI:=yi)
  ·have u2:=wE.1 (show(srV m (durB ((ptS m h L k).2.2++b)) (chV m b h) (ptS m h L k).2.1).isSome=true by simpa using v8);obtain⟨x,hx⟩:=u2;have hG:nlA sgE (srV m (durB ((ptS m h L k).2.2++b)) (chV m b h) (ptS m h L k).2.1)=sgsA x:=by rw[hx];rfl
   have xT:=k2.s1 I w0 hx;have hS:=zqc I hx;have v4:=zg9 hx;have u1:=zda ((ptS m h L k).2.1);obtain⟨R1,T⟩:=u1;have k5:=zda ((ptS m h L k).1);obtain⟨S1,Q⟩:=k5;have k4:=zda ((ptS m h L k).2.2++b);obtain⟨B1,x4⟩:=k4;have v0:S1++x.drop ((R1.length:Nat):Int).toNat=(ptS m h L (k+1)).1:=by rw[hS,←T,←Q,wG]
   have u4:x=(ptS m h L (k+1)).2.1:=by rw[hS]
   have u3:B1=(ptS m h L (k+1)).2.2:=by rw[hS,←x4]
   have h9:R1.length=(ptS m h L k).2.1.length:=by rw[T]
   have h8:S1.length=(ptS m h L k).1.length:=by rw[Q]
   apply yk;apply yf;refine kJ (st':=⟨[(0,.str s),(5,.ptr 5 0 0 0),(7,.ptr 7 0 0 0),(8,.ptr 8 0 0 0),(12,.ptr 12 0 0 0),(13,.own 43),(44,blsA L),(45,iv (L.length:Int)),(46,iv (k:Int)),(14,sgsA R1),(15,.own 30),(21,sgsA x)],[(5,.box (mnE m) 23),(7,.box (hbE h) 32),(8,.box [.str ⟨#[]⟩,.nils] 69),(12,.box (sgE (msS m)) 90),(43,.row sgE (S1) 90 17),(30,.row btE (B1) 100 3)]⟩) yi ?_;refine gq ?_
   first
    |refine zz (zf rfl rfl rfl sl33 ty90 (by omega) (by omega)) rfl ?_
    |refine zz (zp rfl rfl sl33 ty90 (λ_=>rfl) (by omega) (by omega)) rfl ?_
   refine zaf (y6 (l:=S1) (l2:=x.drop ((R1.length:Nat):Int).toNat) rfl rfl rfl SlK.h TiK.h (by decide) (by decide) (λ_=>rfl) (λ_=>rfl) (by rw[wM];omega) rfl) ?_;refine yh ?_;apply yj;refine yO ?_;refine kJ (st':=⟨[(0,.str s),(5,.ptr 5 0 0 0),(7,.ptr 7 0 0 0),(8,.ptr 8 0 0 0),(12,.ptr 12 0 0 0),(13,.own 43),(44,blsA L),(45,iv (L.length:Int)),(46,iv (k:Int)),(14,sgsA x),(15,.own 30)],[(5,.box (mnE m) 23),(7,.box (hbE h) 32),(8,.box [.str ⟨#[]⟩,.nils] 69),(12,.box (sgE (msS m)) 90),(43,.row sgE (S1++x.drop ((R1.length:Nat):Int).toNat) 90 17),(30,.row btE (B1) 100 3)]⟩) yi ?_;refine gq ?_;refine yz (k+1) (hJ:=by exact⟨by omega,xT⟩) (hI:=yi)
 ·obtain rfl:k=L.length:=by omega
  have U:=k2.fin;rw[←N]at U;refine gd ?_ ?_<;>intro hc8
  ·rw[N]at U;rw[←N]at U;have hE:=zx8 c0 e0 J U (by rw[N];omega);have k3:=zhG (s:=s) (m:=m) (l:=l) (h:=h) (by rw[hE];decide);obtain⟨hN,Z⟩:=k3;apply ye;refine ya ?_;refine kK ?_;refine yh ?_;refine kE ?_;refine kA (kY (ts:=[(8,.ptr 8 0 0 0),(9,iv 11)]) (hs:=[(8,.box [.str ⟨#[]⟩,sgsA []] 69)]) ⟨⟨_,rfl,kH _⟩,⟨_,rfl,kH _⟩,True.intro⟩ ⟨⟨_,rfl,bC (.cons (kH _) (.cons (kP _) .nil))⟩,True.intro⟩) ?_;refine yr ty69 ?_ ?_;all_goals(first|(rw[hN,Z];done)|exact zE hE)
  have j2:=zx9 c0 e0 J U (by rw[N];omega);obtain⟨hE,hN,Z⟩:=j2;rw[N]at Z;apply yk;apply yf;refine kJ (st':=⟨[(0,.str s),(8,.ptr 8 0 0 0),(13,sgsA (ptS m h L L.length).1)],[(8,.box [.str ⟨#[]⟩,.nils] 69)]⟩) ((k9 (k:=43) rfl).trans yd) ?_;refine gq ?_;refine yr ty69 ?_ ?_;all_goals(first|(rw[hN,Z];done)|exact zE hE|(rw[hN,Z];rfl))
end
section
def liQ(m:Mn)(l:List Bt)(h:Hb):Bool:=(blV m l).all λb=>decide (wcnV m b h<=64)
def zya{α:Type}{L:List α}{p:α->Bool}{k:Nat}{b:α}(Z:L[k]? =some b)(c:p b=false):L.all p=false:=by
 rw[List.all_eq_false];exact⟨b,j6 Z,by simp[c]⟩
def zBo{α:Type}{L:List α}{p:α->Bool}{k:Nat}{b:α}(Z:L[k]? =some b)(h:(L.take k).all p=true)(c:p b=true):(L.take (k+1)).all p=true:=by
 rw[jF,Z,List.all_append,h];simp[c]
def zuC{m:Mn}{l:List Bt}{b:List Bt}{k:Nat}(Z:(blV m l)[k]? =some b):b.length<=l.length:=by
 by_cases e:blE m l=0
 ·have V:=zl0 (zit e).2 (k+1);rw[(zg8 Z).2.2,jE]at V;omega
 ·unfold blV at Z;rw[j4 e]at Z;simp at Z
def zuD(m:Mn)(l:List Bt):(blV m l).length<=l.length:=by
 by_cases e:blE m l=0
 ·have Z:=zkJ (zit e).1;rw[(zit e).2]at Z;exact Z
 ·unfold blV;rw[j4 e];simp
def zsq{s:ByteArray}{m:Mn}{l:List Bt}{h:Hb}:(paV s m l h).length<=400:=by
 unfold paV;split
 ·rename_i e;unfold paE at e;split at e
  ·split at e
   ·split at e
    ·split at e
     ·split at e
      ·assumption
      ·exact absurd e (by decide)
     ·rename_i c;exact absurd e c
    ·exact absurd e (by decide)
   ·rename_i c;exact absurd e c
  ·exact absurd e (by decide)
 ·simp
attribute [local irreducible] Pur yA yC Ex X Fn Imp LeV LeB FnO It yH FnW FnOW FnP FnD
attribute [local irreducible] wcE wcnE wcnV blE blV ptS ptK paE paN paV nmQ bsB srV chV durB liQ
set_option maxHeartbeats 4000000 in
def zfp(m:Mn)(l:List Bt)(h:Hb)(hl:l.length<=1000000):Fn prog 47 [mnA m,btsA l,hbA h] (.bool (liQ m l h)):=by
 have U:=zaK m l hl;have T:liQ m l h=(blV m l).all (λb=>decide (wcnV m b h<=64)):=by unfold liQ;rfl
 have H:=λ(k:Nat)(b:List Bt)(V:(blV m l)[k]? =some b)=>zuC V
 have Q:=zuD m l;have N:=zda (blV m l);obtain⟨L,G⟩:=N;rw[G]at U T H Q;refine kF func47 ntmps47 (λg w d=>?_);refine gq ?_;refine yP U ?_;iterate 2 refine ya ?_
 refine yE ?_;apply yf;apply ye;refine yh ?_;apply kB;refine zM (λk=>[(3,.ptr 3 0 0 0),(5,.ptr 5 0 0 0),(7,blsA L),(9,iv (k:Int))]) (λk=>[(3,.box (mnE m) 23),(5,.box (hbE h) 32)]) (λk=>k<=L.length/\(L.take k).all (λb=>decide (wcnV m b h<=64))=true) L.length (λk E=>?_) (hJ:=by exact⟨w7 _,by simp⟩);obtain⟨xT,Z⟩:=E;refine gd ?_ ?_<;>intro x4
 ·obtain⟨b,V⟩:∃b,L[k]? =some b:=⟨_,lgg (by omega)⟩;have x3:L[(k:Int).toNat]? =some b:=by simpa using V
  have x2:=H k b V;refine gq ?_;refine yW [10,11,24,25,26,27,28,29,30,31,32,33] [0,0,0,6,14,0,63,127,255,255,511,2047] mo ?_;iterate 6 refine yb ?_
  refine yL (za2 m b h (by omega)) ?_;iterate 5 refine yb ?_
  refine yF ?_;refine gd ?_ ?_<;>intro x1
  ·have J:liQ m l h=false:=by rw[T];exact zya V (by simp;omega)
   refine gq ?_;all_goals rw[J]
  have I:=zBo (p:=(λb=>decide (wcnV m b h<=64))) V Z (by simp;omega);apply yk;refine kJ (st':=⟨[(3,.ptr 3 0 0 0),(5,.ptr 5 0 0 0),(7,blsA L),(9,iv (k:Int))],[(3,.box (mnE m) 23),(5,.box (hbE h) 32)]⟩) yi ?_;refine gq ?_;refine yz (k+1) (hJ:=by exact⟨by omega,I⟩) (hI:=yi)
 ·obtain rfl:k=L.length:=by omega
  have J:liQ m l h=true:=by rw[T];rw[jH]at Z;exact Z
  refine gq ?_;all_goals rw[J]
set_option maxHeartbeats 4000000 in
def C_tactuslaw23_WriteParts(s:ByteArray)(m:Mn)(l:List Bt)(h:Hb):Fn prog 9 [.str s,mnA m,btsA l,hbA h] (.bool true):=by
 refine kF func9 ntmps9 (λg w d=>?_);apply ye;iterate 2 refine zH ?_
 refine yh ?_;apply yf;apply ye;refine ya ?_;refine ya (hs:=by exact zbW Tryz.underlying9 rfl) ?_;refine ya ?_;refine kI 3 ?_;refine gq ?_;refine ExF.cp (x:=.bool (liQ m l h)) ?hc ?_
 case hc=>intro N;exact zfp m l h (by omega)
 refine kG ?_;refine gf ?_ ?_<;>intro J
 ·apply ye;refine gc za4 ?_;all_goals(first|rfl|simp)
 have T:l.length<=70:=by omega
 have V:s.size<=100:=by omega
 have I:=@zsq s m l h;have H:=zuD m l;have G:=λ(k:Nat)(b:List Bt)(Z:(blV m l)[k]? =some b)=>zuC Z
 refine gc (zgN l (by omega)) ?_;refine gc (zcV m l (by omega)) ?_;refine yP (zaK m l (by omega)) ?_;iterate 2 refine ya ?_
 refine yE ?_;apply yf;apply ye;iterate 5 refine ya ?_
 refine kI 5 ?_;refine yp ?_;iterate 3 refine kG ?_
 refine gf ?_ ?_<;>intro E
 ·omega
 apply yk;apply yf;apply ye;refine yh ?_;apply kB;refine zu (λk=>[(0,.str s),(2,btsA l),(5,.ptr 5 0 0 0),(7,.ptr 7 0 0 0),(9,btsA l),(10,blsA (blV m l)),(12,blsA (blV m l)),(14,iv (k:Int))]) (λk=>[(5,.box (mnE m) 23),(7,.box (hbE h) 32)]) ((blV m l).length) (λk hk=>?_);refine gd ?_ ?_<;>intro xT
 ·obtain⟨b,Z⟩:∃b,(blV m l)[k]? =some b:=⟨_,lgg (by omega)⟩;have x4:(blV m l)[(k:Int).toNat]? =some b:=by simpa using Z
  have x3:=G k b Z;refine gq ?_;refine yW [75,76,77,78,79,80,81,82,83,84] [0,0,3,7,0,0,48,112,255,511] mo ?_;iterate 8 refine yb ?_
  refine yL (zbg b b (by omega)) ?_;refine yb ?_;refine yF ?_;refine gd ?_ ?_<;>intro U
  ·simp at U
  apply yk;refine kJ (st':=⟨[(0,.str s),(2,btsA l),(5,.ptr 5 0 0 0),(7,.ptr 7 0 0 0),(9,btsA l),(10,blsA (blV m l)),(12,blsA (blV m l)),(14,iv (k:Int))],[(5,.box (mnE m) 23),(7,.box (hbE h) 32)]⟩) yi ?_;refine gq ?_;refine yz (k+1) (hI:=yi)
 ·refine gc (zkL s m l h (by omega) (by omega)) ?_;refine gc (zge s m l h (by omega) (by omega)) ?_;refine yP (zey (paN s m l h) (paN s m l h) (paV s m l h) (paV s m l h) (by omega)) ?_;refine kI 3 ?_;refine gq ?_;refine bA (zbg l l (by omega)) ?_;refine gq ?_;refine bA za4 ?_;refine ge ?_;all_goals(first|rfl|simp)
end
end Go.Rse
