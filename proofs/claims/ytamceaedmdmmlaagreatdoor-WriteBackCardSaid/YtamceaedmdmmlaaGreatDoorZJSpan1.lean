/-
  Walks.
-/
import Derived.Test.YtamceaedmdmmlaaGreatDoorZJMens2
set_option linter.all false
namespace Go.Rse
open Go Go.Proofs Go.Proofs.Tryz
attribute [local irreducible] Pur yy yz Ex X Fn Imp LeV LeB FnO It yH
section
attribute [local irreducible] gI
def zgX(a b:Int)(h0:0<=a)(h1:a<=9223372036854775807)(Z:0<b):Fn prog 119 [iv a,iv b] (.tup [iv (a/b),iv (a%b)]):=by
 refine kR func119 ntmps119 (λg w d=>?_);refine gq ?_;refine yW [4,5,6,7,8,9,10,11] [0,0,3,0,0,24,7,127] mo ?_;iterate 8 refine yb ?_
 refine yI ?_;refine gq ?_;refine yl ?_ ?_;all_goals exact zR
def zbI(a b:Int)(h0:0<=a)(h1:a<=9223372036854775807)(U:0<=b)(T:b<=9223372036854775807):Fn prog 110 [iv a,iv b] (iv (gI a b)):=by
 induction hn:b.toNat using Nat.strongRecOn generalizing a b
 rename_i n ih;refine kR func110 ntmps110 (λg w d=>?_);refine gd ?_ ?_<;>intro V
 ·refine gq ?_;all_goals(rw[V,zlv h0])
 have Z:0<b:=by omega
 have e0:=uS a (show b≠0 by omega);have e1:=uD a Z;refine gc (zgX a b h0 h1 Z) ?_;refine gc (ih (a%b).toNat (by omega) b (a%b) U T e0 (by omega) rfl) ?_;all_goals(rw[zlw h0 Z])
def zcx(t:Tm):Fn prog 65 [tmA t] (iv (ckT t)):=by
 refine kR func65 ntmps65 (λg w d=>?_);apply ye;refine zz ?_;refine yj ?_;apply yh;apply kP;apply ye;iterate 3 refine ya ?_
 refine kU 3 ?_;refine yo ?_;iterate 3 refine kS ?_
 iterate 2 refine yo ?_
 iterate 3 refine kS ?_
 iterate 2 refine yo ?_
 iterate 3 refine kS ?_
 refine gf ?_ ?_<;>intro V
 ·refine gq ?_;all_goals(congr 1;unfold ckT;rw[j6 (by omega)])
 refine gc (zbI t.N t.D (by omega) (by omega) (by omega) (by omega)) ?_;refine gd ?_ ?_<;>intro Z
 ·refine gq ?_;all_goals(congr 1;unfold ckT;rw[j7 (by omega),j6 Z])
 refine gq ?_;all_goals(congr 1;unfold ckT;rw[j7 (by omega),j7 (by omega)])
def zay(l:List Tm)(hl:l.length<=4000000000):Fn prog 117 [tmsA l] (iv (yM l)):=by
 refine kR func117 ntmps117 (λg w d=>?_);apply ye;refine yj ?_;apply yh;apply ye;refine yC ?_;apply kP;refine zW (λk=>[(6,tmsA l),(7,iv l.length),(8,iv (k:Int))]) (λk=>[]) (λk=>k<=l.length/\yM l=yM (l.drop k)) l.length (λk hk=>?_) (hJ:=by exact⟨by omega,rfl⟩) (h0:=yd);obtain⟨T,Z⟩:=hk;refine gd ?_ ?_<;>intro N
 ·have U:=@getX _ l k (by omega);obtain⟨t,ht,J⟩:=U;refine gc (zcx t) ?_;refine gd ?_ ?_<;>intro V
  ·refine gq ?_;all_goals(congr 1;rw[Z,zbu ht,j7 V])
  refine gq ?_;refine yu (k+1) (hJ:=by exact⟨by omega,by rw[Z,zbu ht,j6 V]⟩)
 ·refine gq ?_;all_goals(congr 1;rw[Z,wH (by omega)];rfl)
def zdg(n q:Int)(h0:n<=9223372036854775807)(h1:q<=9223372036854775807)(hm:-9223372036854775808<=n):Fn prog 118 [iv n,iv q] (.tup [tmA (tmkT n q),iv (tmkE n q)]):=by
 refine kR func118 ntmps118 (λg w d=>?_);apply ye;refine za ?_;refine yj ?_;apply yh;apply kP;apply ye;iterate 2 refine ya ?_
 refine kU 2 ?_;refine yo ?_;iterate 2 refine kS ?_
 refine gf ?_ ?_<;>intro V
 ·have hE:tmkE n q=2:=by unfold tmkE;rw[j6 V]
  have Z:tmkT n q=tmZ:=by unfold tmkT;rw[j7 (by omega)]
  refine gq ?_;refine yx ty61 ?_ ?_;all_goals(first|exact zE hE|exact zE Z)
 refine gd ?_ ?_<;>intro U
 ·have hE:tmkE n q=5:=by unfold tmkE;rw[j7 (by omega),j6 U]
  have Z:tmkT n q=tmZ:=by unfold tmkT;rw[j7 (by omega)]
  refine gq ?_;refine yx ty61 ?_ ?_;all_goals(first|exact zE hE|exact zE Z)
 have N:=zbY (n:=n) (d:=q) (by omega);refine gc (zbI n q (by omega) (by omega) (by omega) (by omega)) ?_;refine yW [7,23,24,25,26,27,28,29] [0,0,3,0,0,24,63,0,255] mo ?_;iterate 7 refine yb ?_
 refine ChM.step rfl rfl rfl (zp (k:=7) zc61) rfl ?_;refine yI ?_;refine kV ?_;apply kW;apply yh;apply ye;iterate 3 refine ya ?_
 refine kU 3 ?_;refine yo ?_;iterate 3 refine kS ?_
 refine gf ?_ ?_<;>intro T
 ·have hE:tmkE n q=4:=by unfold tmkE;rw[j7 (by omega),j7 (by omega),j6 T]
  have Z:tmkT n q=tmZ:=by unfold tmkT;rw[j7 (by omega)]
  refine gq ?_;refine yx ty61 ?_ ?_;all_goals(first|exact zE hE|exact zE Z)
 have hE:tmkE n q=0:=by unfold tmkE;rw[j7 (by omega),j7 (by omega),j7 (λh=>by omega)]
 have Z:tmkT n q=⟨n/gI n q,q/gI n q⟩:=by unfold tmkT;rw[j6 hE]
 refine gq ?_;refine yx ty61 ?_ ?_;all_goals(first|exact zE hE|exact zE Z)
def zbl(a b:Tm):Fn prog 69 [tmA a,tmA b] (.tup [tmA (addV a b),iv (addE a b)]):=by
 refine kR func69 ntmps69 (λg w d=>?_);refine gq ?_;refine yD tmE [⟨_,_⟩,⟨_,_⟩] ?_;refine bF (kL (k:=9) rfl) ?_;refine gc (zay [a,b] (by simp)) ?_;refine gd ?_ ?_<;>intro Z
 ·have hE:addE a b=yM [a,b]:=by unfold addE;rw[j7 Z]
  have U:addV a b=tmZ:=by unfold addV;rw[j7 Z]
  refine gq ?_;refine yx ty61 ?_ ?_;all_goals(first|exact zE hE|exact zE U|(unfold addE;rw[j6 Z];done)|(unfold addV;rw[j6 Z];done)|(unfold addV;rw[j6 Z];rfl))
 have V:=zbZ Z;have b1:=zM V.1;have b2:=zM V.2;have m1:=mulB b1.1 b1.2.1 b2.2.2.1 b2.2.2.2.1;have m2:=mulB b2.1 b2.2.1 b1.2.2.1 b1.2.2.2.1;have m3:=mulB b1.2.2.1 b1.2.2.2.1 b2.2.2.1 b2.2.2.2.1;have m4:=mulP b1.2.2.2.2.1 b2.2.2.2.2.1;refine gc (zdg (a.N*b.D+b.N*a.D) (a.D*b.D) (by omega) (by omega) (by omega)) ?_;refine yx ty61 ?_ ?_;all_goals(first|exact zE hE|exact zE U|(unfold addE;rw[j6 Z];done)|(unfold addV;rw[j6 Z];done)|(unfold addV;rw[j6 Z];rfl))
def zcU(a b:Tm):Fn prog 236 [tmA a,tmA b] (.tup [tmA (subV a b),iv (subE a b)]):=by
 refine kR func236 ntmps236 (λg w d=>?_);refine gq ?_;refine yD tmE [⟨_,_⟩,⟨_,_⟩] ?_;refine bF (kL (k:=9) rfl) ?_;refine gc (zay [a,b] (by simp)) ?_;refine gd ?_ ?_<;>intro Z
 ·have hE:subE a b=yM [a,b]:=by unfold subE;rw[j7 Z]
  have U:subV a b=tmZ:=by unfold subV;rw[j7 Z]
  refine gq ?_;refine yx ty61 ?_ ?_;all_goals(first|exact zE hE|exact zE U|(unfold subE;rw[j6 Z];done)|(unfold subV;rw[j6 Z];done)|(unfold subV;rw[j6 Z];rfl))
 have V:=zbZ Z;have b1:=zM V.1;have b2:=zM V.2;have m1:=mulB b1.1 b1.2.1 b2.2.2.1 b2.2.2.2.1;have m2:=mulB b2.1 b2.2.1 b1.2.2.1 b1.2.2.2.1;have m3:=mulB b1.2.2.1 b1.2.2.2.1 b2.2.2.1 b2.2.2.2.1;have m4:=mulP b1.2.2.2.2.1 b2.2.2.2.2.1;refine gc (zdg (a.N*b.D-b.N*a.D) (a.D*b.D) (by omega) (by omega) (by omega)) ?_;refine yx ty61 ?_ ?_;all_goals(first|exact zE hE|exact zE U|(unfold subE;rw[j6 Z];done)|(unfold subV;rw[j6 Z];done)|(unfold subV;rw[j6 Z];rfl))
def zgY(a b c q:Int)(a0:0<=a)(a1:a<=1099511627776)(b0:1<=b)(b1:b<=1099511627776)(c0:0<=c)(c1:c<=1099511627776)(d0:1<=q)(d1:q<=1099511627776):Fn prog 156 [iv a,iv b,iv c,iv q] (.tup [tmA (tmsV a b c q),iv (tmsE a b c q)]):=by
 have G:=zbY (n:=a) (d:=q) (by omega);have E:=zbY (n:=c) (d:=b) (by omega);have qa:=uA a0 (uN G);have qb:=uA (show 0<=b by omega) (uN E);have qc:=uA c0 (uN E);have qd:=uA (show 0<=q by omega) (uN G);have ra:=u5 (gI a q) a0;have rb:=u5 (gI c b) (show 0<=b by omega);have rc:=u5 (gI c b) c0;have rd:=u5 (gI a q) (show 0<=q by omega);have hE:tmsE a b c q=if bigQ (a/gI a q) (b/gI c b) (c/gI c b) (q/gI a q)then 4 else tmkE (a/gI a q*(c/gI c b)) (b/gI c b*(q/gI a q)):=rfl
 have hV:tmsV a b c q=if bigQ (a/gI a q) (b/gI c b) (c/gI c b) (q/gI a q)then tmZ else tmkT (a/gI a q*(c/gI c b)) (b/gI c b*(q/gI a q)):=rfl
 rw[hE,hV];refine kR func156 ntmps156 (λg w d=>?_);refine gc (zbI a q (by omega) (by omega) (by omega) (by omega)) ?_;refine gc (zbI c b (by omega) (by omega) (by omega) (by omega)) ?_;refine bI [⟨0,18,iv a,[]⟩,⟨1,19,iv (gI a q),[]⟩,⟨2,20,iv (a/gI a q),[1,0]⟩,⟨3,21,iv q,[]⟩,⟨4,22,iv (gI a q),[]⟩,⟨5,23,iv (q/gI a q),[4,3]⟩,⟨6,24,iv c,[]⟩,⟨7,25,iv (gI c b),[]⟩,⟨8,26,iv (c/gI c b),[7,6]⟩,⟨9,27,iv b,[]⟩,⟨10,28,iv (gI c b),[]⟩,⟨11,29,iv (b/gI c b),[10,9]⟩] [(12,[1,0,2]),(13,[4,3,2,1,0,12,5]),(14,[12,7,6,5,4,3,2,1,0,13,8]),(15,[13,12,10,9,8,7,6,5,4,3,2,1,0,14,11])] (λj=>match j with|0=>⟨[(0,iv (a)),(1,iv (b)),(2,iv (c)),(3,iv (q)),(8,.ptr 8 0 0 0),(10,iv (gI a q)),(11,iv (gI c b))],[(8,.box [iv 0,iv 0] 61)]⟩|1=>⟨[(0,iv (a/gI a q)),(1,iv (b)),(2,iv (c)),(3,iv (q)),(8,.ptr 8 0 0 0),(10,iv (gI a q)),(11,iv (gI c b))],[(8,.box [iv 0,iv 0] 61)]⟩|2=>⟨[(0,iv (a/gI a q)),(1,iv (b)),(2,iv (c)),(3,iv (q/gI a q)),(8,.ptr 8 0 0 0),(10,iv (gI a q)),(11,iv (gI c b))],[(8,.box [iv 0,iv 0] 61)]⟩|3=>⟨[(0,iv (a/gI a q)),(1,iv (b)),(2,iv (c/gI c b)),(3,iv (q/gI a q)),(8,.ptr 8 0 0 0),(10,iv (gI a q)),(11,iv (gI c b))],[(8,.box [iv 0,iv 0] 61)]⟩|_=>⟨[(0,iv (a/gI a q)),(1,iv (b/gI c b)),(2,iv (c/gI c b)),(3,iv (q/gI a q)),(8,.ptr 8 0 0 0),(10,iv (gI a q)),(11,iv (gI c b))],[(8,.box [iv 0,iv 0] 61)]⟩) mo (by kernel_rfl) (zj (yd)) (λj hj=>?_) (λj c V β hβ=>?_) ?_
 ·rcases j with _|_|_|_|_|j
  ·exact yF
  ·exact yF
  ·exact yF
  ·exact yF
  ·exact yF
  ·exact absurd (show j+5<=4 from hj) (by omega)
 ·rcases j with _|_|_|_|j
  ·obtain rfl:(12,[1,0,2])=c:=by injection V
   refine yp rfl (yn (st0:=⟨[(18,iv a),(19,iv (gI a q)),(20,iv (a/gI a q)),(21,.ifb (β 3) (iv q)),(22,.ifb (β 4) (iv (gI a q))),(23,.ifb (β 5) (iv (q/gI a q))),(24,.ifb (β 6) (iv c)),(25,.ifb (β 7) (iv (gI c b))),(26,.ifb (β 8) (iv (c/gI c b))),(27,.ifb (β 9) (iv b)),(28,.ifb (β 10) (iv (gI c b))),(29,.ifb (β 11) (iv (b/gI c b))),(0,iv (a)),(1,iv (b)),(2,iv (c)),(3,iv (q)),(8,.ptr 8 0 0 0),(10,iv (gI a q)),(11,iv (gI c b))],[(8,.box [iv 0,iv 0] 61)]⟩) (ym) ?_);refine yz.imp (yL (kK (zcf rfl)) rfl rfl) (ym)
  ·obtain rfl:(13,[4,3,2,1,0,12,5])=c:=by injection V
   refine yp rfl (yn (st0:=⟨[(18,iv a),(19,iv (gI a q)),(20,iv (a/gI a q)),(21,iv q),(22,iv (gI a q)),(23,iv (q/gI a q)),(24,.ifb (β 6) (iv c)),(25,.ifb (β 7) (iv (gI c b))),(26,.ifb (β 8) (iv (c/gI c b))),(27,.ifb (β 9) (iv b)),(28,.ifb (β 10) (iv (gI c b))),(29,.ifb (β 11) (iv (b/gI c b))),(0,iv (a/gI a q)),(1,iv (b)),(2,iv (c)),(3,iv (q)),(8,.ptr 8 0 0 0),(10,iv (gI a q)),(11,iv (gI c b))],[(8,.box [iv 0,iv 0] 61)]⟩) (ym) ?_);refine yz.imp (yL (kK (zcf rfl)) rfl rfl) (ym)
  ·obtain rfl:(14,[12,7,6,5,4,3,2,1,0,13,8])=c:=by injection V
   refine yp rfl (yn (st0:=⟨[(18,iv a),(19,iv (gI a q)),(20,iv (a/gI a q)),(21,iv q),(22,iv (gI a q)),(23,iv (q/gI a q)),(24,iv c),(25,iv (gI c b)),(26,iv (c/gI c b)),(27,.ifb (β 9) (iv b)),(28,.ifb (β 10) (iv (gI c b))),(29,.ifb (β 11) (iv (b/gI c b))),(0,iv (a/gI a q)),(1,iv (b)),(2,iv (c)),(3,iv (q/gI a q)),(8,.ptr 8 0 0 0),(10,iv (gI a q)),(11,iv (gI c b))],[(8,.box [iv 0,iv 0] 61)]⟩) (ym) ?_);refine yz.imp (yL (kK (zcf rfl)) rfl rfl) (ym)
  ·obtain rfl:(15,[13,12,10,9,8,7,6,5,4,3,2,1,0,14,11])=c:=by injection V
   refine yp rfl (yn (st0:=⟨[(18,iv a),(19,iv (gI a q)),(20,iv (a/gI a q)),(21,iv q),(22,iv (gI a q)),(23,iv (q/gI a q)),(24,iv c),(25,iv (gI c b)),(26,iv (c/gI c b)),(27,iv b),(28,iv (gI c b)),(29,iv (b/gI c b)),(0,iv (a/gI a q)),(1,iv (b)),(2,iv (c/gI c b)),(3,iv (q/gI a q)),(8,.ptr 8 0 0 0),(10,iv (gI a q)),(11,iv (gI c b))],[(8,.box [iv 0,iv 0] 61)]⟩) (ym) ?_);refine yz.imp (yL (kK (zcf rfl)) rfl rfl) (ym)
  ·exact absurd V (by simp)
 iterate 2 apply yh
 generalize a/gI a q=a2 at*
 generalize b/gI c b=b2 at*
 generalize c/gI c b=c2 at*
 generalize q/gI a q=d2 at*
 apply yf;iterate 2 refine ya ?_
 refine kU 2 ?_;refine yo ?_;iterate 4 refine kS ?_
 iterate 2 refine yo ?_
 iterate 8 refine kS ?_
 refine gf ?_ ?_<;>intro U
 ·have Z:bigQ a2 b2 c2 d2:=U;refine gq ?_;refine yx ty61 ?_ ?_;all_goals(first|(rw[j7 Z];done)|(rw[j7 Z];rfl)|(rw[j6 Z];done)|(rw[j6 Z];rfl))
 have Z:¬bigQ a2 b2 c2 d2:=λh=>by unfold bigQ at h;omega
 have z1:0<=a2*c2:=vQ qa qc
 have z2:a2*c2<=1099511627776:=by
  by_cases h:0<a2
  ·exact zfe h (by decide) (λT=>Z (.inl ⟨h,T⟩))
  ·rw[show a2=0 by omega];simp
 have z3:b2*d2<=1048576:=by
  by_cases h:0<d2
  ·rw[Int.mul_comm];exact zfe h (by decide) (λT=>Z (.inr ⟨h,T⟩))
  ·rw[show d2=0 by omega];simp
 have N:-9223372036854775808<=a2*c2:=by omega
 have J:a2*c2<=9223372036854775807:=by omega
 have H:b2*d2<=9223372036854775807:=by omega
 have z4:0<=b2*d2:=vQ qb qd;refine gc (zdg _ _ J H N) ?_;refine yx ty61 ?_ ?_;all_goals(first|(rw[j7 Z];done)|(rw[j7 Z];rfl)|(rw[j6 Z];done)|(rw[j6 Z];rfl))
def zd2(a b:Tm):Fn prog 103 [tmA a,tmA b] (.tup [tmA (mulV a b),iv (mulE a b)]):=by
 refine kR func103 ntmps103 (λg w d=>?_);refine gq ?_;refine yD tmE [⟨_,_⟩,⟨_,_⟩] ?_;refine bF (kL (k:=9) rfl) ?_;refine gc (zay [a,b] (by simp)) ?_;refine gd ?_ ?_<;>intro Z
 ·have hE:mulE a b=yM [a,b]:=by unfold mulE;rw[j7 Z]
  have U:mulV a b=tmZ:=by unfold mulV;rw[j7 Z]
  refine gq ?_;refine yx ty61 ?_ ?_;all_goals(first|exact zE hE|exact zE U|(unfold mulE;rw[j6 Z];done)|(unfold mulV;rw[j6 Z];done)|(unfold mulV;rw[j6 Z];rfl))
 have V:=zbZ Z;have b1:=zM V.1;have b2:=zM V.2;have m1:=mulB b1.1 b1.2.1 b2.2.2.1 b2.2.2.2.1;have m2:=mulB b2.1 b2.2.1 b1.2.2.1 b1.2.2.2.1;have m3:=mulB b1.2.2.1 b1.2.2.2.1 b2.2.2.1 b2.2.2.2.1;have m4:=mulP b1.2.2.2.2.1 b2.2.2.2.2.1;refine gc (zgY a.N a.D b.N b.D b1.1 b1.2.1 b1.2.2.2.2.1 (by omega) b2.1 b2.2.1 b2.2.2.2.2.1 (by omega)) ?_;refine yx ty61 ?_ ?_;all_goals(first|exact zE hE|exact zE U|(unfold mulE;rw[j6 Z];done)|(unfold mulV;rw[j6 Z];done)|(unfold mulV;rw[j6 Z];rfl))
def zjh(a b:Tm):Fn prog 316 [tmA a,tmA b] (.tup [iv (cmpV a b),iv (yM [a,b])]):=by
 refine kR func316 ntmps316 (λg w d=>?_);refine gq ?_;refine yD tmE [⟨_,_⟩,⟨_,_⟩] ?_;refine bF (kL (k:=10) rfl) ?_;refine gc (zay [a,b] (by simp)) ?_;refine gd ?_ ?_<;>intro Z
 ·have V:cmpV a b=0:=by unfold cmpV;rw[j7 Z]
  refine gq ?_;refine yl ?_ ?_;all_goals(first|exact zE V|rfl|exact zE Z)
 have U:=zbZ Z;have b1:=zM U.1;have b2:=zM U.2;have m1:=mulB b1.1 b1.2.1 b2.2.2.1 b2.2.2.2.1;have m2:=mulB b2.1 b2.2.1 b1.2.2.1 b1.2.2.2.1;have m3:=mulB b1.2.2.1 b1.2.2.2.1 b2.2.2.1 b2.2.2.2.1;have m4:=mulP b1.2.2.2.2.1 b2.2.2.2.2.1;refine gd ?_ ?_<;>intro T
 ·have V:cmpV a b=-1:=by unfold cmpV;rw[j6 Z,j6 (by omega)]
  refine gq ?_;refine yl ?_ ?_;all_goals(first|exact zE V|rfl|exact zE Z)
 refine gd ?_ ?_<;>intro N
 ·have V:cmpV a b=1:=by unfold cmpV;rw[j6 Z,j7 (by omega),j6 (by omega)]
  refine gq ?_;refine yl ?_ ?_;all_goals(first|exact zE V|rfl|exact zE Z)
 have V:cmpV a b=0:=by unfold cmpV;rw[j6 Z,j7 (by omega),j7 (by omega)]
 refine gq ?_;refine yl ?_ ?_;all_goals(first|exact zE V|rfl|exact zE Z)
theorem znT(l:List Tm)(hl:l.length<=4000000000):Fn prog 282 [tmsA l] (.tup [tmA (sumV l),iv (sumE l)]):=by
 refine kR func282 ntmps282 (λg w d=>?_);refine gc (zay l hl) ?_;refine gd ?_ ?_<;>intro Z
 ·have hE:sumE l=yM l:=by unfold sumE;rw[j7 Z]
  have U:sumV l=tmZ:=by unfold sumV;rw[j7 Z]
  refine gq ?_;refine yx ty61 ?_ ?_;all_goals(first|exact zE hE|exact zE U)
 have hE:sumE l=(sumF ⟨0,1⟩ l).2:=by unfold sumE;rw[j6 Z]
 have U:sumV l=(sumF ⟨0,1⟩ l).1:=by unfold sumV;rw[j6 Z]
 refine gq ?_;refine zen (ι:=Nat×Tm) (λ(p:Nat×Tm)=>[(2,.ptr 2 0 0 0),(5,.ptr 5 0 0 0),(16,tmsA l),(17,iv l.length),(18,iv (p.1:Int))]) (λ(p:Nat×Tm)=>[(2,.box [iv 0,iv 0] 61),(5,.box (tmE p.2) 61)]) (λ(p:Nat×Tm)=>p.1<=l.length/\sumF ⟨0,1⟩ l=sumF p.2 (l.drop p.1)) (λ(p:Nat×Tm)=>l.length-p.1) (0,⟨0,1⟩) (λp hk=>?_) (hJ:=by exact⟨by simp,rfl⟩);obtain⟨k,s⟩:=p;obtain⟨H,V⟩:=hk;dsimp only at*
 refine gd ?_ ?_<;>intro G
 ·have N:=@getX _ l k (by omega);obtain⟨t,ht,E⟩:=N;refine gc (zbl s t) ?_;refine gd ?_ ?_<;>intro T
  ·have J:=zks (s:=s) ht;rw[j7 T]at J;rw[V,J]at hE U;refine gq ?_;refine yx ty61 ?_ ?_;all_goals(first|exact zE hE|exact zE U)
  refine gq ?_;refine yu ((k+1,addV s t)) (hJ:=by exact⟨by dsimp only;omega,by rw[V,zks ht,j6 T]⟩)
 ·rw[V,wH (by omega)]at hE U;refine gq ?_;refine yx ty61 ?_ ?_;all_goals(first|exact zE hE|exact zE U)
def zlU(a b:Tm):Fn prog 70 [tmA a,tmA b] (.tup [iv (whQ a b),tmA (whR a b),iv (whE a b)]):=by
 refine kR func70 ntmps70 (λg w d=>?_);refine gq ?_;refine yD tmE [⟨_,_⟩,⟨_,_⟩] ?_;refine bF (kL (k:=14) rfl) ?_;refine gc (zay [a,b] (by simp)) ?_;refine gd ?_ ?_<;>intro V
 ·have hE:whE a b=yM [a,b]:=by unfold whE;rw[j7 V]
  have U:whQ a b=0:=by unfold whQ;rw[j7 (by omega)]
  have T:whR a b=tmZ:=by unfold whR;rw[j7 (by omega)]
  refine gq ?_;refine kY (.many (by decide) (.cons (.tmp rfl (kO ?_)) (.cons (.cellA rfl rfl rfl rfl ty61 (kO ?_)) (.cons (.tmp rfl (kO ?_)) .nil))));all_goals(first|exact zE U|exact zE hE|exact zE T|(rw[hE,Z];done))
 have J:=zbZ V;have b1:=zM J.1;have b2:=zM J.2;have m1:=mulB b1.1 b1.2.1 b2.2.2.1 b2.2.2.2.1;have m2:=mulB b2.1 b2.2.1 b1.2.2.1 b1.2.2.2.1;have m3:=mulB b1.2.2.1 b1.2.2.2.1 b2.2.2.1 b2.2.2.2.1;have m4:=mulP b1.2.2.2.2.1 b2.2.2.2.2.1;refine gd ?_ ?_<;>intro H
 ·have hE:whE a b=5:=by unfold whE;rw[j6 V,j6 H]
  have U:whQ a b=0:=by unfold whQ;rw[j7 (by omega)]
  have T:whR a b=tmZ:=by unfold whR;rw[j7 (by omega)]
  refine gq ?_;refine kY (.many (by decide) (.cons (.tmp rfl (kO ?_)) (.cons (.cellA rfl rfl rfl rfl ty61 (kO ?_)) (.cons (.tmp rfl (kO ?_)) .nil))));all_goals(first|exact zE U|exact zE hE|exact zE T|(rw[hE,Z];done))
 have hE:whE a b=tmkE (a.N*b.D%(b.N*a.D)) (a.D*b.D):=by unfold whE;rw[j6 V,j7 H]
 have m5:0<b.N*a.D:=by have:=mulP (x:=b.N) (y:=a.D) (by omega) (by omega);omega
 have e0:=uS (a.N*b.D) (show b.N*a.D≠0 by omega);have e1:=uD (a.N*b.D) m5;refine gc (zgX (a.N*b.D) (b.N*a.D) (by omega) (by omega) m5) ?_;refine gc (zdg (a.N*b.D%(b.N*a.D)) (a.D*b.D) (by omega) (by omega) (by omega)) ?_;refine gd ?_ ?_<;>intro Z
 ·have U:whQ a b=0:=by unfold whQ;rw[hE,j7 Z]
  have T:whR a b=tmZ:=by unfold whR;rw[hE,j7 Z]
  refine gq ?_;refine kY (.many (by decide) (.cons (.tmp rfl (kO ?_)) (.cons (.cellA rfl rfl rfl rfl ty61 (kO ?_)) (.cons (.tmp rfl (kO ?_)) .nil))));all_goals(first|exact zE U|exact zE hE|exact zE T|(rw[hE,Z];done))
 have U:whQ a b=a.N*b.D/(b.N*a.D):=by unfold whQ;rw[hE,j6 Z]
 have T:whR a b=tmkT (a.N*b.D%(b.N*a.D)) (a.D*b.D):=by unfold whR;rw[hE,j6 Z]
 refine gq ?_;refine yW [4,52,53] [0,0,1,7,15] mo ?_;iterate 3 refine yb ?_
 refine yI ?_;refine gq ?_;refine kY (.many (by decide) (.cons (.tmp rfl (kO ?_)) (.cons (.cellA rfl rfl rfl rfl ty61 (kO ?_)) (.cons (.tmp rfl (kO ?_)) .nil))));all_goals(first|exact zE U|exact zE hE|exact zE T|(rw[hE,Z];done))
end
section
attribute [local irreducible] gI
def zkE(a b:Tm):yM [a,b]=if ckT a=0 then ckT b else ckT a:=by
 simp only[yM];by_cases Z:ckT a=0
 ·rw[j6 Z,j6 Z];by_cases V:ckT b=0
  ·rw[j6 V,V]
  ·rw[j7 V]
 ·rw[j7 Z,j7 Z]
def zaL(a b:Int)(h0:0<=a)(h1:a<=9223372036854775807)(U:0<=b)(T:b<=9223372036854775807):Fn prog 143 [iv a,iv b] (iv (gI a b)):=by
 refine kR func143 ntmps143 (λg w d=>?_);refine gq ?_;refine zen (ι:=Int×Int) (λ(p:Int×Int)=>[(0,iv p.1),(1,iv p.2)]) (λ(p:Int×Int)=>[]) (λ(p:Int×Int)=>0<=p.1/\0<=p.2/\p.1<=9223372036854775807/\p.2<=9223372036854775807/\gI p.1 p.2=gI a b) (λ(p:Int×Int)=>p.2.toNat) (a,b) (λp hk=>?_) (hJ:=by exact⟨h0,U,h1,T,rfl⟩);obtain⟨x,y⟩:=p;obtain⟨k1,k2,k3,k4,k5⟩:=hk;dsimp only at*
 refine gd ?_ ?_<;>intro Z
 ·have e0:=uS x (show y≠0 by omega);have e1:=uD x Z;refine gq ?_;refine yu ((y,x%y)) (hJ:=by exact⟨by omega,e0,by dsimp only;omega,by dsimp only;omega,by rw[←k5];exact zlw k1 Z⟩)
 ·have V:y=0:=by omega
  subst V;refine gq ?_;all_goals(rw[←k5,zlv k1])
def zS(t:Tm):Fn prog 91 [tmA t] (iv (ckT t)):=by
 refine kR func91 ntmps91 (λg w d=>?_);apply ye;refine zz ?_;refine yj ?_;apply yh;apply ye;iterate 3 refine ya ?_
 refine kU 3 ?_;refine yo ?_;iterate 3 refine kS ?_
 iterate 2 refine yo ?_
 iterate 3 refine kS ?_
 iterate 2 refine yo ?_
 iterate 3 refine kS ?_
 refine gf ?_ ?_<;>intro Z
 ·refine gq ?_;all_goals(congr 1;unfold ckT;rw[j6 (by omega)])
 have U:=zbY (n:=t.N) (d:=t.D) (by omega);refine gc (zaL t.N t.D (by omega) (by omega) (by omega) (by omega)) ?_;refine gd ?_ ?_<;>intro V
 ·refine gq ?_;all_goals(congr 1;unfold ckT;rw[j7 (by omega),j6 (by omega)])
 refine gq ?_;all_goals(congr 1;unfold ckT;rw[j7 (by omega),j7 (by omega)])
def zb4(n q:Int)(h0:0<=n)(h1:n<=9223372036854775807)(U:1<=q)(T:q<=9223372036854775807):Fn prog 96 [iv n,iv q] (.tup [tmA (tmkT n q),iv (tmkE n q)]):=by
 have N:=zbY (n:=n) (d:=q) (by omega);refine kR func96 ntmps96 (λg w d=>?_);refine gq ?_;refine yR (zaL n q (by omega) (by omega) (by omega) (by omega)) ?_;refine ya ?_;apply yE;iterate 4 refine ya ?_
 apply yE;refine ya ?_;refine yC ?_;apply yh;apply ye;iterate 2 refine ya ?_
 refine kU 2 ?_;refine yo ?_;iterate 2 refine kS ?_
 refine gf ?_ ?_<;>intro Z
 ·have hE:tmkE n q=4:=by unfold tmkE;rw[j7 (by omega),j7 (by omega),j6 Z]
  have V:tmkT n q=tmZ:=by unfold tmkT;rw[j7 (by omega)]
  refine gq ?_;refine yx ty61 ?_ ?_;all_goals(first|exact zE hE|exact zE V)
 have hE:tmkE n q=0:=by unfold tmkE;rw[j7 (by omega),j7 (by omega),j7 (λh=>by omega)]
 have V:tmkT n q=⟨n/gI n q,q/gI n q⟩:=by unfold tmkT;rw[j6 hE]
 refine gq ?_;refine yx ty61 ?_ ?_;all_goals(first|exact zE hE|exact zE V)
def zcV(n q:Int)(h0:n<=9223372036854775807)(h1:q<=9223372036854775807):Fn prog 212 [iv n,iv q] (.tup [tmA (tmkT n q),iv (tmkE n q)]):=by
 refine kR func212 ntmps212 (λg w d=>?_);apply ye;refine za ?_;refine yj ?_;apply yh;apply ye;iterate 2 refine ya ?_
 refine kU 2 ?_;refine yo ?_;iterate 2 refine kS ?_
 refine gf ?_ ?_<;>intro V
 ·have hE:tmkE n q=2:=by unfold tmkE;rw[j6 V]
  have Z:tmkT n q=tmZ:=by unfold tmkT;rw[j7 (by omega)]
  refine gq ?_;refine yx ty61 ?_ ?_;all_goals(first|rfl|exact zE hE|exact zE Z)
 refine gd ?_ ?_<;>intro U
 ·have hE:tmkE n q=5:=by unfold tmkE;rw[j7 (by omega),j6 U]
  have Z:tmkT n q=tmZ:=by unfold tmkT;rw[j7 (by omega)]
  refine gq ?_;refine yx ty61 ?_ ?_;all_goals(first|rfl|exact zE hE|exact zE Z)
 refine gc (zb4 n q (by omega) (by omega) (by omega) (by omega)) ?_;refine yx ty61 ?_ ?_;all_goals(first|rfl|exact zE hE|exact zE Z)
def z6(a b:Tm):Fn prog 95 [tmA a,tmA b] (iv (yM [a,b])):=by
 refine kR func95 ntmps95 (λg w d=>?_);refine gc (zS a) ?_;refine gd ?_ ?_<;>intro Z
 ·refine gq ?_;all_goals(congr 1;rw[zkE,j7 Z])
 refine gc (zS b) ?_;all_goals(congr 1;rw[zkE,j6 Z])
def zae(a b:Tm):Fn prog 215 [tmA a,tmA b] (.tup [tmA (subV a b),iv (subE a b)]):=by
 refine kR func215 ntmps215 (λg w d=>?_);refine gc (z6 a b) ?_;refine gd ?_ ?_<;>intro Z
 ·have hE:subE a b=yM [a,b]:=by unfold subE;rw[j7 Z]
  have V:subV a b=tmZ:=by unfold subV;rw[j7 Z]
  refine gq ?_;refine yx ty61 ?_ ?_;all_goals(first|exact zE hE|exact zE V)
 have U:=zbZ Z;have b1:=zM U.1;have b2:=zM U.2;have m1:=mulB b1.1 b1.2.1 b2.2.2.1 b2.2.2.2.1;have m2:=mulB b2.1 b2.2.1 b1.2.2.1 b1.2.2.2.1;have m3:=mulB b1.2.2.1 b1.2.2.2.1 b2.2.2.1 b2.2.2.2.1;have m4:=mulP b1.2.2.2.2.1 b2.2.2.2.2.1;have hE:subE a b=tmkE (a.N*b.D-b.N*a.D) (a.D*b.D):=by unfold subE;rw[j6 Z]
 have V:subV a b=tmkT (a.N*b.D-b.N*a.D) (a.D*b.D):=by unfold subV;rw[j6 Z]
 refine gd ?_ ?_<;>intro T
 ·have J:tmkE (a.N*b.D-b.N*a.D) (a.D*b.D)=2:=by unfold tmkE;rw[j6 (by omega)]
  have H:tmkT (a.N*b.D-b.N*a.D) (a.D*b.D)=tmZ:=by unfold tmkT;rw[j7 (by omega)]
  rw[J]at hE;rw[H]at V;refine gq ?_;refine yx ty61 ?_ ?_;all_goals(first|exact zE hE|exact zE V)
 refine gc (zb4 (a.N*b.D-b.N*a.D) (a.D*b.D) (by omega) (by omega) (by omega) (by omega)) ?_;refine yx ty61 ?_ ?_;all_goals(first|exact zE hE|exact zE V)
def zbU(a b:Tm):Fn prog 250 [tmA a,tmA b] (.tup [iv (cmpV a b),iv (yM [a,b])]):=by
 refine kR func250 ntmps250 (λg w d=>?_);refine gc (z6 a b) ?_;refine gd ?_ ?_<;>intro Z
 ·have V:cmpV a b=0:=by unfold cmpV;rw[j7 Z]
  refine gq ?_;refine yl ?_ ?_;all_goals(first|exact zE V|rfl|exact zE Z)
 have U:=zbZ Z;have b1:=zM U.1;have b2:=zM U.2;have m1:=mulB b1.1 b1.2.1 b2.2.2.1 b2.2.2.2.1;have m2:=mulB b2.1 b2.2.1 b1.2.2.1 b1.2.2.2.1;have m3:=mulB b1.2.2.1 b1.2.2.2.1 b2.2.2.1 b2.2.2.2.1;have m4:=mulP b1.2.2.2.2.1 b2.2.2.2.2.1;refine gq ?_;refine yW [7,8,15,16,17,18,19,20,21,22,23,24] [0,1,0,4,15,0,32,0,128,480,31,2047] mo ?_;iterate 12 refine yb ?_
 refine yI ?_;refine gd ?_ ?_<;>intro T
 ·have V:cmpV a b=-1:=by unfold cmpV;rw[j6 Z,j6 (by omega)]
  refine gq ?_;refine yl ?_ ?_;all_goals(first|exact zE V|rfl|exact zE Z)
 refine gd ?_ ?_<;>intro N
 ·have V:cmpV a b=1:=by unfold cmpV;rw[j6 Z,j7 (by omega),j6 (by omega)]
  refine gq ?_;refine yl ?_ ?_;all_goals(first|exact zE V|rfl|exact zE Z)
 have V:cmpV a b=0:=by unfold cmpV;rw[j6 Z,j7 (by omega),j7 (by omega)]
 refine gq ?_;refine yl ?_ ?_;all_goals(first|exact zE V|rfl|exact zE Z)
end
section
def Mn.ok_L(m:Mn):m.Ok↔∀v∈mnL m,two3 v:=by simp[Mn.Ok,mnL]
theorem zrU{m:Mn}{w:Int}(h:4<w):m.p w=2:=by
 unfold Mn.p;rw[j7 (by omega),j7 (by omega),j7 (by omega),j7 (by omega)]
def zo8{m:Mn}{v:Int}(h:ckMV m v=0):1<=v/\v<=8:=by
 unfold ckMV at h;split at h
 ·split at h
  ·assumption
  ·omega
 ·omega
def zud{m:Mn}{v w:Int}(h1:1<=w)(hv:w<v)(U:m.p w=3)(hJ:∀u,w<u->u<v->m.p u≠3):m.ab v=w:=by
 have J:w<=4:=by
  rcases Int.lt_or_le 4 w with h|h
  ·rw[zrU h]at U;omega
  ·exact h
 have V:∀u,w<u->decide (decide (m.p u=3)=true/\decide (u<v)=true)=false:=λu h=>by
  by_cases T:m.p u=3
  ·have:¬u<v:=λN=>hJ u h N T
   simp[this]
  ·simp[T]
 have Z:decide (decide (m.p w=3)=true/\decide (w<v)=true)=true:=by simp[U,hv]
 unfold Mn.ab perfL;rw[List.find?_filter];have:w=1\/w=2\/w=3\/w=4:=by omega
 rcases this with rfl|rfl|rfl|rfl
 ·simp only[xA,V 4 (by omega),V 3 (by omega),V 2 (by omega),Z];rfl
 ·simp only[xA,V 4 (by omega),V 3 (by omega),Z];rfl
 ·simp only[xA,V 4 (by omega),Z];rfl
 ·simp only[xA,Z];rfl
def zue{m:Mn}{v:Int}(hJ:∀u,1<=u->u<v->m.p u≠3):m.ab v=0:=zoU λi _ k hk h=>by
 have hm:k∈perfL m:=j8 hk;have Z:=wU.1 hm;have V:m.p k=3:=by simpa using Z.2
 have U:1<=k:=by have:=Z.1;simp at this;omega
 exact hJ k U h V
def zn(m:Mn):Fn prog 55 [mnA m] (iv (ckM m)):=by
 refine kR func55 ntmps55 (λg w d=>?_);refine gq ?_;refine yD intE [_,_,_,_] ?_;refine yj ?_;iterate 2 apply yh
 refine kT (kL (k:=13) rfl) ?_;apply yf;refine yj ?_;apply kP;refine zW (λk=>[(3,yc (mnL m)),(4,iv (k:Int))]) (λk=>[]) (λk=>k<=4/\∀i v,i<k->(mnL m)[i]? =some v->two3 v) 4 (λk hk=>?_) (hJ:=by exact⟨by omega,λi v h=>absurd h (u0 i)⟩) (h0:=yd);obtain⟨T,Z⟩:=hk;have N:(mnL m).length=4:=rfl;refine gd ?_ ?_<;>intro J
 ·have U:=@getX _ (mnL m) k (by omega);obtain⟨v,hv,H⟩:=U;apply yk;apply yh;apply kP;apply ye;iterate 5 refine ya ?_
  refine kU 5 ?_;refine yo ?_;iterate 5 refine kS ?_
  refine gf ?_ ?_<;>intro G
  ·refine gq ?_;all_goals(congr 1;unfold ckM;rw[j7 (λh=>by have:=(m.ok_L.1 h) v (j8 hv);unfold two3 at this;omega)])
  refine gq ?_
  refine yu (k+1) (hJ:=by
   refine⟨by omega,λi u hi V=>?_⟩;rcases wG.1 hi with h|h
   ·exact Z i u h V
   ·subst h;rw[hv]at V;injection V with V;subst V;unfold two3;omega)
 ·refine gq ?_;all_goals(congr 1;unfold ckM;rw[j6 (m.ok_L.2 λv hv=>by obtain⟨i,hi⟩:=jQ.1 hv;exact Z i v (by have:=(j5.1 hi).1;omega) hi)])
def yX(m:Mn)(v:Int):Fn prog 97 [mnA m,iv v] (iv (m.p v)):=by
 refine kR func97 ntmps97 (λg w d=>?_);refine gd ?_ ?_<;>intro Z
 ·refine gq ?_;all_goals(congr 1;unfold Mn.p;simp[*])
 refine gd ?_ ?_<;>intro V
 ·refine gq ?_;all_goals(congr 1;unfold Mn.p;simp[*])
 refine gd ?_ ?_<;>intro U
 ·refine gq ?_;all_goals(congr 1;unfold Mn.p;simp[*])
 refine gd ?_ ?_<;>intro T
 ·refine gq ?_;all_goals(congr 1;unfold Mn.p;simp[*])
 refine gq ?_;all_goals(congr 1;unfold Mn.p;simp[*])
def zcp(m:Mn)(v:Int):Fn prog 147 [mnA m,iv v] (iv (ckMV m v)):=by
 refine kR func147 ntmps147 (λg w d=>?_);refine gc (zn m) ?_;refine gd ?_ ?_<;>intro Z
 ·refine gq ?_;all_goals(by_cases hm:m.Ok<;>simp_all[ckM,ckMV]<;>omega)
 apply yk;apply yh;apply ye;iterate 2 refine ya ?_
 refine kU 2 ?_;refine yo ?_;iterate 2 refine kS ?_
 refine gf ?_ ?_<;>intro V
 ·refine gq ?_;all_goals(by_cases hm:m.Ok<;>simp_all[ckM,ckMV]<;>omega)
 refine gq ?_;all_goals(by_cases hm:m.Ok<;>simp_all[ckM,ckMV]<;>omega)
def zfv(m:Mn)(v:Int):Fn prog 133 [mnA m,iv v] (.tup [iv (if ckMV m v=0 then m.ab v else 0),iv (ckMV m v)]):=by
 refine kR func133 ntmps133 (λg w d=>?_);refine gc (zcp m v) ?_;refine gd ?_ ?_<;>intro Z
 ·refine gq ?_;refine yl ?_ ?_;all_goals(first|(simp_all;done))
 apply yk;iterate 2 apply yh
 have N:=zo8 Z;refine gq ?_;refine zen (ι:=Nat) (λ(k:Nat)=>[(2,.ptr 2 0 0 0),(7,iv (v-1-(k:Int)))]) (λ(k:Nat)=>[(2,.box (mnE m) 27)]) (λ(k:Nat)=>(k:Int)<=v-1/\∀u,v-1-(k:Int)<u->u<v->m.p u≠3) (λ(k:Nat)=>(v-1-k).toNat) 0 (λk hk=>?_) (hJ:=by exact⟨by omega,λu h1 U=>by omega⟩);obtain⟨J,V⟩:=hk;refine gd ?_ ?_<;>intro H
 ·refine gc (yX m _) ?_;refine gd ?_ ?_<;>intro T
  ·refine gq ?_;refine yl ?_ ?_;all_goals(first|(rw[j6 Z,zud (by omega) (by omega) T (λu h1 U=>V u h1 U)];done)|(simp_all;done))
  refine gq ?_
  refine yu (k+1) (hJ:=by
   refine⟨by omega,λu h1 U=>?_⟩;by_cases e:u=v-1-(k:Int)
   ·rw[e];exact T
   ·exact V u (by omega) U)
 ·refine gq ?_;refine yl ?_ ?_;all_goals(first|(rw[j6 Z,zue (λu h1 U=>V u (by omega) U)];done)|(simp_all;done))
end
end Go.Rse
