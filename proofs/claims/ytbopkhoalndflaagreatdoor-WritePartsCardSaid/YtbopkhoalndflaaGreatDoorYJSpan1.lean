/-
  Walks.
-/
import Derived.Test.YtbopkhoalndflaaGreatDoorYJTime
set_option linter.all false
namespace Go.Rse
open Go Go.Proofs Go.Proofs.Tryz
section
attribute [local irreducible] Pur yA yC Ex X Fn Imp LeV LeB FnO It yH
attribute [local irreducible] gI
def zgH(a b:Int)(h0:0<=a)(Z:a<=9223372036854775807)(V:0<b):Fn prog 146 [iv a,iv b] (.tup [iv (a/b),iv (a%b)]):=by
 refine kF func146 ntmps146 (λg w d=>?_);refine gq ?_;refine yW [4,5,6,7,8,9,10,11] [0,0,3,0,0,24,7,127] mo ?_;iterate 8 refine yb ?_
 refine yF ?_;refine gq ?_;refine ym ?_ ?_;all_goals exact zR
def zbC(a b:Int)(h0:0<=a)(U:a<=9223372036854775807)(T:0<=b)(Q:b<=9223372036854775807):Fn prog 165 [iv a,iv b] (iv (gI a b)):=by
 induction hn:b.toNat using Nat.strongRecOn generalizing a b
 rename_i n ih;refine kF func165 ntmps165 (λg w d=>?_);refine gd ?_ ?_<;>intro V
 ·refine gq ?_;all_goals(rw[V,zk1 h0])
 have Z:0<b:=by omega
 have e0:=uH a (show b≠0 by omega);have e1:=wW a Z;refine gc (zgH a b h0 U Z) ?_;refine gc (ih (a%b).toNat (by omega) b (a%b) T Q e0 (by omega) rfl) ?_;all_goals(rw[zk2 h0 Z])
def zcq(t:Tm):Fn prog 119 [tmA t] (iv (ckT t)):=by
 refine kF func119 ntmps119 (λg w d=>?_);apply ye;refine zH ?_;refine yh ?_;apply yf;apply kB;apply ye;iterate 3 refine ya ?_
 refine kI 3 ?_;refine yp ?_;iterate 3 refine kG ?_
 iterate 2 refine yp ?_
 iterate 3 refine kG ?_
 iterate 2 refine yp ?_
 iterate 3 refine kG ?_
 refine gf ?_ ?_<;>intro V
 ·refine gq ?_;all_goals(congr 1;unfold ckT;rw[j3 (by omega)])
 refine gc (zbC t.N t.D (by omega) (by omega) (by omega) (by omega)) ?_;refine gd ?_ ?_<;>intro Z
 ·refine gq ?_;all_goals(congr 1;unfold ckT;rw[j4 (by omega),j3 Z])
 refine gq ?_;all_goals(congr 1;unfold ckT;rw[j4 (by omega),j4 (by omega)])
def zat(l:List Tm)(hl:l.length<=4000000000):Fn prog 144 [tmsA l] (iv (yM l)):=by
 refine kF func144 ntmps144 (λg w d=>?_);apply ye;refine yh ?_;apply yf;apply ye;refine yE ?_;apply kB;refine zM (λk=>[(6,tmsA l),(7,iv l.length),(8,iv (k:Int))]) (λk=>[]) (λk=>k<=l.length/\yM l=yM (l.drop k)) l.length (λk U=>?_) (hJ:=by exact⟨by omega,rfl⟩) (h0:=yd);obtain⟨T,Z⟩:=U;refine gd ?_ ?_<;>intro Q
 ·obtain⟨t,ht⟩:∃t,l[k]? =some t:=⟨_,lgg (by omega)⟩;have N:l[(k:Int).toNat]? =some t:=by simpa using ht
  refine gc (zcq t) ?_;refine gd ?_ ?_<;>intro V
  ·refine gq ?_;all_goals(congr 1;rw[Z,zbq ht,j4 V])
  refine gq ?_;refine yz (k+1) (hJ:=by exact⟨by omega,by rw[Z,zbq ht,j3 V]⟩)
 ·refine gq ?_;all_goals(congr 1;rw[Z,w8 (by omega)];rfl)
def zdg(n q:Int)(h0:n<=9223372036854775807)(Q:q<=9223372036854775807)(hm:-9223372036854775808<=n):Fn prog 145 [iv n,iv q] (.tup [tmA (tmkT n q),iv (tmkE n q)]):=by
 refine kF func145 ntmps145 (λg w d=>?_);apply ye;refine zk ?_;refine yh ?_;apply yf;apply kB;apply ye;iterate 2 refine ya ?_
 refine kI 2 ?_;refine yp ?_;iterate 2 refine kG ?_
 refine gf ?_ ?_<;>intro V
 ·have hE:tmkE n q=2:=by unfold tmkE;rw[j3 V]
  have Z:tmkT n q=tmZ:=by unfold tmkT;rw[j4 (by omega)]
  refine gq ?_;refine yr ty83 ?_ ?_;all_goals(first|exact zE hE|exact zE Z)
 refine gd ?_ ?_<;>intro U
 ·have hE:tmkE n q=5:=by unfold tmkE;rw[j4 (by omega),j3 U]
  have Z:tmkT n q=tmZ:=by unfold tmkT;rw[j4 (by omega)]
  refine gq ?_;refine yr ty83 ?_ ?_;all_goals(first|exact zE hE|exact zE Z)
 have N:=zcf (n:=n) (d:=q) (by omega);refine gc (zbC n q (by omega) (by omega) (by omega) (by omega)) ?_;refine yW [7,23,24,25,26,27,28,29] [0,0,3,0,0,24,63,0,255] mo ?_;iterate 7 refine yb ?_
 refine ChM.step rfl rfl rfl (zx (k:=7) zc83) rfl ?_;refine yF ?_;refine kK ?_;apply kQ;apply yf;apply ye;iterate 3 refine ya ?_
 refine kI 3 ?_;refine yp ?_;iterate 3 refine kG ?_
 refine gf ?_ ?_<;>intro T
 ·have hE:tmkE n q=4:=by unfold tmkE;rw[j4 (by omega),j4 (by omega),j3 T]
  have Z:tmkT n q=tmZ:=by unfold tmkT;rw[j4 (by omega)]
  refine gq ?_;refine yr ty83 ?_ ?_;all_goals(first|exact zE hE|exact zE Z)
 have hE:tmkE n q=0:=by unfold tmkE;rw[j4 (by omega),j4 (by omega),j4 (λh=>by omega)]
 have Z:tmkT n q=⟨n/gI n q,q/gI n q⟩:=by unfold tmkT;rw[j3 hE]
 refine gq ?_;refine yr ty83 ?_ ?_;all_goals(first|exact zE hE|exact zE Z)
def zbf(a b:Tm):Fn prog 103 [tmA a,tmA b] (.tup [tmA (addV a b),iv (addE a b)]):=by
 refine kF func103 ntmps103 (λg w d=>?_);refine gq ?_;refine yD tmE [⟨_,_⟩,⟨_,_⟩] ?_;refine kU (k9 (k:=9) rfl) ?_;refine gc (zat [a,b] (by simp)) ?_;refine gd ?_ ?_<;>intro Z
 ·have hE:addE a b=yM [a,b]:=by unfold addE;rw[j4 Z]
  have U:addV a b=tmZ:=by unfold addV;rw[j4 Z]
  refine gq ?_;refine yr ty83 ?_ ?_;all_goals(first|exact zE hE|exact zE U|(unfold addE;rw[j3 Z];done)|(unfold addV;rw[j3 Z];done)|(unfold addV;rw[j3 Z];rfl))
 have V:=zbY Z;have b1:=z7 V.1;have b2:=z7 V.2;have m1:=mulB b1.1 b1.2.1 b2.2.2.1 b2.2.2.2.1;have m2:=mulB b2.1 b2.2.1 b1.2.2.1 b1.2.2.2.1;have m3:=mulB b1.2.2.1 b1.2.2.2.1 b2.2.2.1 b2.2.2.2.1;have m4:=mulP b1.2.2.2.2.1 b2.2.2.2.2.1;refine gc (zdg (a.N*b.D+b.N*a.D) (a.D*b.D) (by omega) (by omega) (by omega)) ?_;refine yr ty83 ?_ ?_;all_goals(first|exact zE hE|exact zE U|(unfold addE;rw[j3 Z];done)|(unfold addV;rw[j3 Z];done)|(unfold addV;rw[j3 Z];rfl))
def zcR(a b:Tm):Fn prog 266 [tmA a,tmA b] (.tup [tmA (subV a b),iv (subE a b)]):=by
 refine kF func266 ntmps266 (λg w d=>?_);refine gq ?_;refine yD tmE [⟨_,_⟩,⟨_,_⟩] ?_;refine kU (k9 (k:=9) rfl) ?_;refine gc (zat [a,b] (by simp)) ?_;refine gd ?_ ?_<;>intro Z
 ·have hE:subE a b=yM [a,b]:=by unfold subE;rw[j4 Z]
  have U:subV a b=tmZ:=by unfold subV;rw[j4 Z]
  refine gq ?_;refine yr ty83 ?_ ?_;all_goals(first|exact zE hE|exact zE U|(unfold subE;rw[j3 Z];done)|(unfold subV;rw[j3 Z];done)|(unfold subV;rw[j3 Z];rfl))
 have V:=zbY Z;have b1:=z7 V.1;have b2:=z7 V.2;have m1:=mulB b1.1 b1.2.1 b2.2.2.1 b2.2.2.2.1;have m2:=mulB b2.1 b2.2.1 b1.2.2.1 b1.2.2.2.1;have m3:=mulB b1.2.2.1 b1.2.2.2.1 b2.2.2.1 b2.2.2.2.1;have m4:=mulP b1.2.2.2.2.1 b2.2.2.2.2.1;refine gc (zdg (a.N*b.D-b.N*a.D) (a.D*b.D) (by omega) (by omega) (by omega)) ?_;refine yr ty83 ?_ ?_;all_goals(first|exact zE hE|exact zE U|(unfold subE;rw[j3 Z];done)|(unfold subV;rw[j3 Z];done)|(unfold subV;rw[j3 Z];rfl))
def zgI(a b c q:Int)(a0:0<=a)(a1:a<=1099511627776)(b0:1<=b)(b1:b<=1099511627776)(c0:0<=c)(c1:c<=1099511627776)(d0:1<=q)(d1:q<=1099511627776):Fn prog 254 [iv a,iv b,iv c,iv q] (.tup [tmA (tmsV a b c q),iv (tmsE a b c q)]):=by
 have I:=zcf (n:=a) (d:=q) (by omega);have H:=zcf (n:=c) (d:=b) (by omega);have qa:=wU a0 (uD I);have qb:=wU (show 0<=b by omega) (uD H);have qc:=wU c0 (uD H);have qd:=wU (show 0<=q by omega) (uD I);have ra:=u0 (gI a q) a0;have rb:=u0 (gI c b) (show 0<=b by omega);have rc:=u0 (gI c b) c0;have rd:=u0 (gI a q) (show 0<=q by omega);have hE:tmsE a b c q=if bigQ (a/gI a q) (b/gI c b) (c/gI c b) (q/gI a q)then 4 else tmkE (a/gI a q*(c/gI c b)) (b/gI c b*(q/gI a q)):=rfl
 have G:tmsV a b c q=if bigQ (a/gI a q) (b/gI c b) (c/gI c b) (q/gI a q)then tmZ else tmkT (a/gI a q*(c/gI c b)) (b/gI c b*(q/gI a q)):=rfl
 rw[hE,G];refine kF func254 ntmps254 (λg w d=>?_);refine gc (zbC a q (by omega) (by omega) (by omega) (by omega)) ?_;refine gc (zbC c b (by omega) (by omega) (by omega) (by omega)) ?_;refine kW [⟨0,18,iv a,[]⟩,⟨1,19,iv (gI a q),[]⟩,⟨2,20,iv (a/gI a q),[1,0]⟩,⟨3,21,iv q,[]⟩,⟨4,22,iv (gI a q),[]⟩,⟨5,23,iv (q/gI a q),[4,3]⟩,⟨6,24,iv c,[]⟩,⟨7,25,iv (gI c b),[]⟩,⟨8,26,iv (c/gI c b),[7,6]⟩,⟨9,27,iv b,[]⟩,⟨10,28,iv (gI c b),[]⟩,⟨11,29,iv (b/gI c b),[10,9]⟩] [(12,[1,0,2]),(13,[4,3,2,1,0,12,5]),(14,[12,7,6,5,4,3,2,1,0,13,8]),(15,[13,12,10,9,8,7,6,5,4,3,2,1,0,14,11])] (λj=>match j with|0=>⟨[(0,iv (a)),(1,iv (b)),(2,iv (c)),(3,iv (q)),(8,.ptr 8 0 0 0),(10,iv (gI a q)),(11,iv (gI c b))],[(8,.box [iv 0,iv 0] 83)]⟩|1=>⟨[(0,iv (a/gI a q)),(1,iv (b)),(2,iv (c)),(3,iv (q)),(8,.ptr 8 0 0 0),(10,iv (gI a q)),(11,iv (gI c b))],[(8,.box [iv 0,iv 0] 83)]⟩|2=>⟨[(0,iv (a/gI a q)),(1,iv (b)),(2,iv (c)),(3,iv (q/gI a q)),(8,.ptr 8 0 0 0),(10,iv (gI a q)),(11,iv (gI c b))],[(8,.box [iv 0,iv 0] 83)]⟩|3=>⟨[(0,iv (a/gI a q)),(1,iv (b)),(2,iv (c/gI c b)),(3,iv (q/gI a q)),(8,.ptr 8 0 0 0),(10,iv (gI a q)),(11,iv (gI c b))],[(8,.box [iv 0,iv 0] 83)]⟩|_=>⟨[(0,iv (a/gI a q)),(1,iv (b/gI c b)),(2,iv (c/gI c b)),(3,iv (q/gI a q)),(8,.ptr 8 0 0 0),(10,iv (gI a q)),(11,iv (gI c b))],[(8,.box [iv 0,iv 0] 83)]⟩) mo (by kernel_rfl) (zg (yd)) (λj E=>?_) (λj c V β hβ=>?_) ?_
 ·rcases j with _|_|_|_|_|j
  ·exact yw
  ·exact yw
  ·exact yw
  ·exact yw
  ·exact yw
  ·exact absurd (show j+5<=4 from E) (by omega)
 ·rcases j with _|_|_|_|j
  ·obtain rfl:(12,[1,0,2])=c:=by injection V
   refine yo rfl (yn (st0:=⟨[(18,iv a),(19,iv (gI a q)),(20,iv (a/gI a q)),(21,.ifb (β 3) (iv q)),(22,.ifb (β 4) (iv (gI a q))),(23,.ifb (β 5) (iv (q/gI a q))),(24,.ifb (β 6) (iv c)),(25,.ifb (β 7) (iv (gI c b))),(26,.ifb (β 8) (iv (c/gI c b))),(27,.ifb (β 9) (iv b)),(28,.ifb (β 10) (iv (gI c b))),(29,.ifb (β 11) (iv (b/gI c b))),(0,iv (a)),(1,iv (b)),(2,iv (c)),(3,iv (q)),(8,.ptr 8 0 0 0),(10,iv (gI a q)),(11,iv (gI c b))],[(8,.box [iv 0,iv 0] 83)]⟩) (yl) ?_);refine yC.imp (yK (k8 (za6 rfl)) rfl rfl) (yl)
  ·obtain rfl:(13,[4,3,2,1,0,12,5])=c:=by injection V
   refine yo rfl (yn (st0:=⟨[(18,iv a),(19,iv (gI a q)),(20,iv (a/gI a q)),(21,iv q),(22,iv (gI a q)),(23,iv (q/gI a q)),(24,.ifb (β 6) (iv c)),(25,.ifb (β 7) (iv (gI c b))),(26,.ifb (β 8) (iv (c/gI c b))),(27,.ifb (β 9) (iv b)),(28,.ifb (β 10) (iv (gI c b))),(29,.ifb (β 11) (iv (b/gI c b))),(0,iv (a/gI a q)),(1,iv (b)),(2,iv (c)),(3,iv (q)),(8,.ptr 8 0 0 0),(10,iv (gI a q)),(11,iv (gI c b))],[(8,.box [iv 0,iv 0] 83)]⟩) (yl) ?_);refine yC.imp (yK (k8 (za6 rfl)) rfl rfl) (yl)
  ·obtain rfl:(14,[12,7,6,5,4,3,2,1,0,13,8])=c:=by injection V
   refine yo rfl (yn (st0:=⟨[(18,iv a),(19,iv (gI a q)),(20,iv (a/gI a q)),(21,iv q),(22,iv (gI a q)),(23,iv (q/gI a q)),(24,iv c),(25,iv (gI c b)),(26,iv (c/gI c b)),(27,.ifb (β 9) (iv b)),(28,.ifb (β 10) (iv (gI c b))),(29,.ifb (β 11) (iv (b/gI c b))),(0,iv (a/gI a q)),(1,iv (b)),(2,iv (c)),(3,iv (q/gI a q)),(8,.ptr 8 0 0 0),(10,iv (gI a q)),(11,iv (gI c b))],[(8,.box [iv 0,iv 0] 83)]⟩) (yl) ?_);refine yC.imp (yK (k8 (za6 rfl)) rfl rfl) (yl)
  ·obtain rfl:(15,[13,12,10,9,8,7,6,5,4,3,2,1,0,14,11])=c:=by injection V
   refine yo rfl (yn (st0:=⟨[(18,iv a),(19,iv (gI a q)),(20,iv (a/gI a q)),(21,iv q),(22,iv (gI a q)),(23,iv (q/gI a q)),(24,iv c),(25,iv (gI c b)),(26,iv (c/gI c b)),(27,iv b),(28,iv (gI c b)),(29,iv (b/gI c b)),(0,iv (a/gI a q)),(1,iv (b)),(2,iv (c/gI c b)),(3,iv (q/gI a q)),(8,.ptr 8 0 0 0),(10,iv (gI a q)),(11,iv (gI c b))],[(8,.box [iv 0,iv 0] 83)]⟩) (yl) ?_);refine yC.imp (yK (k8 (za6 rfl)) rfl rfl) (yl)
  ·exact absurd V (by simp)
 iterate 2 apply yf
 generalize a/gI a q=a2 at*
 generalize b/gI c b=b2 at*
 generalize c/gI c b=c2 at*
 generalize q/gI a q=d2 at*
 apply yj;iterate 2 refine ya ?_
 refine kI 2 ?_;refine yp ?_;iterate 4 refine kG ?_
 iterate 2 refine yp ?_
 iterate 8 refine kG ?_
 refine gf ?_ ?_<;>intro U
 ·have Z:bigQ a2 b2 c2 d2:=U;refine gq ?_;refine yr ty83 ?_ ?_;all_goals(first|(rw[j4 Z];done)|(rw[j4 Z];rfl)|(rw[j3 Z];done)|(rw[j3 Z];rfl))
 have Z:¬bigQ a2 b2 c2 d2:=λh=>by unfold bigQ at h;omega
 have z1:0<=a2*c2:=vF qa qc
 have z2:a2*c2<=1099511627776:=by
  by_cases h:0<a2
  ·exact zfb h (by decide) (λT=>Z (.inl ⟨h,T⟩))
  ·rw[show a2=0 by omega];simp
 have z3:b2*d2<=1048576:=by
  by_cases h:0<d2
  ·rw[Int.mul_comm];exact zfb h (by decide) (λT=>Z (.inr ⟨h,T⟩))
  ·rw[show d2=0 by omega];simp
 have Q:-9223372036854775808<=a2*c2:=by omega
 have N:a2*c2<=9223372036854775807:=by omega
 have J:b2*d2<=9223372036854775807:=by omega
 have z4:0<=b2*d2:=vF qb qd;refine gc (zdg _ _ N J Q) ?_;refine yr ty83 ?_ ?_;all_goals(first|(rw[j4 Z];done)|(rw[j4 Z];rfl)|(rw[j3 Z];done)|(rw[j3 Z];rfl))
def zdX(a b:Tm):Fn prog 190 [tmA a,tmA b] (.tup [tmA (mulV a b),iv (mulE a b)]):=by
 refine kF func190 ntmps190 (λg w d=>?_);refine gq ?_;refine yD tmE [⟨_,_⟩,⟨_,_⟩] ?_;refine kU (k9 (k:=9) rfl) ?_;refine gc (zat [a,b] (by simp)) ?_;refine gd ?_ ?_<;>intro Z
 ·have hE:mulE a b=yM [a,b]:=by unfold mulE;rw[j4 Z]
  have U:mulV a b=tmZ:=by unfold mulV;rw[j4 Z]
  refine gq ?_;refine yr ty83 ?_ ?_;all_goals(first|exact zE hE|exact zE U|(unfold mulE;rw[j3 Z];done)|(unfold mulV;rw[j3 Z];done)|(unfold mulV;rw[j3 Z];rfl))
 have V:=zbY Z;have b1:=z7 V.1;have b2:=z7 V.2;have m1:=mulB b1.1 b1.2.1 b2.2.2.1 b2.2.2.2.1;have m2:=mulB b2.1 b2.2.1 b1.2.2.1 b1.2.2.2.1;have m3:=mulB b1.2.2.1 b1.2.2.2.1 b2.2.2.1 b2.2.2.2.1;have m4:=mulP b1.2.2.2.2.1 b2.2.2.2.2.1;refine gc (zgI a.N a.D b.N b.D b1.1 b1.2.1 b1.2.2.2.2.1 (by omega) b2.1 b2.2.1 b2.2.2.2.2.1 (by omega)) ?_;refine yr ty83 ?_ ?_;all_goals(first|exact zE hE|exact zE U|(unfold mulE;rw[j3 Z];done)|(unfold mulV;rw[j3 Z];done)|(unfold mulV;rw[j3 Z];rfl))
def ziG(a b:Tm):Fn prog 379 [tmA a,tmA b] (.tup [iv (cmpV a b),iv (yM [a,b])]):=by
 refine kF func379 ntmps379 (λg w d=>?_);refine gq ?_;refine yD tmE [⟨_,_⟩,⟨_,_⟩] ?_;refine kU (k9 (k:=10) rfl) ?_;refine gc (zat [a,b] (by simp)) ?_;refine gd ?_ ?_<;>intro Z
 ·have V:cmpV a b=0:=by unfold cmpV;rw[j4 Z]
  refine gq ?_;refine ym ?_ ?_;all_goals(first|exact zE V|rfl|exact zE Z)
 have U:=zbY Z;have b1:=z7 U.1;have b2:=z7 U.2;have m1:=mulB b1.1 b1.2.1 b2.2.2.1 b2.2.2.2.1;have m2:=mulB b2.1 b2.2.1 b1.2.2.1 b1.2.2.2.1;have m3:=mulB b1.2.2.1 b1.2.2.2.1 b2.2.2.1 b2.2.2.2.1;have m4:=mulP b1.2.2.2.2.1 b2.2.2.2.2.1;refine gd ?_ ?_<;>intro T
 ·have V:cmpV a b=-1:=by unfold cmpV;rw[j3 Z,j3 (by omega)]
  refine gq ?_;refine ym ?_ ?_;all_goals(first|exact zE V|rfl|exact zE Z)
 refine gd ?_ ?_<;>intro Q
 ·have V:cmpV a b=1:=by unfold cmpV;rw[j3 Z,j4 (by omega),j3 (by omega)]
  refine gq ?_;refine ym ?_ ?_;all_goals(first|exact zE V|rfl|exact zE Z)
 have V:cmpV a b=0:=by unfold cmpV;rw[j3 Z,j4 (by omega),j4 (by omega)]
 refine gq ?_;refine ym ?_ ?_;all_goals(first|exact zE V|rfl|exact zE Z)
theorem zm5(l:List Tm)(hl:l.length<=4000000000):Fn prog 348 [tmsA l] (.tup [tmA (sumV l),iv (sumE l)]):=by
 refine kF func348 ntmps348 (λg w d=>?_);refine gc (zat l hl) ?_;refine gd ?_ ?_<;>intro Z
 ·have hE:sumE l=yM l:=by unfold sumE;rw[j4 Z]
  have U:sumV l=tmZ:=by unfold sumV;rw[j4 Z]
  refine gq ?_;refine yr ty83 ?_ ?_;all_goals(first|exact zE hE|exact zE U)
 have hE:sumE l=(sumF ⟨0,1⟩ l).2:=by unfold sumE;rw[j3 Z]
 have U:sumV l=(sumF ⟨0,1⟩ l).1:=by unfold sumV;rw[j3 Z]
 refine gq ?_;refine zd3 (ι:=Nat×Tm) (λ(p:Nat×Tm)=>[(2,.ptr 2 0 0 0),(5,.ptr 5 0 0 0),(16,tmsA l),(17,iv l.length),(18,iv (p.1:Int))]) (λ(p:Nat×Tm)=>[(2,.box [iv 0,iv 0] 83),(5,.box (tmE p.2) 83)]) (λ(p:Nat×Tm)=>p.1<=l.length/\sumF ⟨0,1⟩ l=sumF p.2 (l.drop p.1)) (λ(p:Nat×Tm)=>l.length-p.1) (0,⟨0,1⟩) (λp N=>?_) (hJ:=by exact⟨by simp,rfl⟩);obtain⟨k,s⟩:=p;obtain⟨J,V⟩:=N;dsimp only at*
 refine gd ?_ ?_<;>intro I
 ·obtain⟨t,ht⟩:∃t,l[k]? =some t:=⟨_,lgg (by omega)⟩;have H:l[(k:Int).toNat]? =some t:=by simpa using ht
  refine gc (zbf s t) ?_;refine gd ?_ ?_<;>intro T
  ·have Q:=zj0 (s:=s) ht;rw[j4 T]at Q;rw[V,Q]at hE U;refine gq ?_;refine yr ty83 ?_ ?_;all_goals(first|exact zE hE|exact zE U)
  refine gq ?_;refine yz ((k+1,addV s t)) (hJ:=by exact⟨by dsimp only;omega,by rw[V,zj0 ht,j3 T]⟩)
 ·rw[V,w8 (by omega)]at hE U;refine gq ?_;refine yr ty83 ?_ ?_;all_goals(first|exact zE hE|exact zE U)
def zkV(a b:Tm):Fn prog 104 [tmA a,tmA b] (.tup [iv (whQ a b),tmA (whR a b),iv (whE a b)]):=by
 refine kF func104 ntmps104 (λg w d=>?_);refine gq ?_;refine yD tmE [⟨_,_⟩,⟨_,_⟩] ?_;refine kU (k9 (k:=14) rfl) ?_;refine gc (zat [a,b] (by simp)) ?_;refine gd ?_ ?_<;>intro V
 ·have hE:whE a b=yM [a,b]:=by unfold whE;rw[j4 V]
  have U:whQ a b=0:=by unfold whQ;rw[j4 (by omega)]
  have T:whR a b=tmZ:=by unfold whR;rw[j4 (by omega)]
  refine gq ?_;refine kL (.many (by decide) (.cons (.tmp rfl (kC ?_)) (.cons (.cellA rfl rfl rfl rfl ty83 (kC ?_)) (.cons (.tmp rfl (kC ?_)) .nil))));all_goals(first|exact zE U|exact zE hE|exact zE T|(rw[hE,Z];done))
 have Q:=zbY V;have b1:=z7 Q.1;have b2:=z7 Q.2;have m1:=mulB b1.1 b1.2.1 b2.2.2.1 b2.2.2.2.1;have m2:=mulB b2.1 b2.2.1 b1.2.2.1 b1.2.2.2.1;have m3:=mulB b1.2.2.1 b1.2.2.2.1 b2.2.2.1 b2.2.2.2.1;have m4:=mulP b1.2.2.2.2.1 b2.2.2.2.2.1;refine gd ?_ ?_<;>intro J
 ·have hE:whE a b=5:=by unfold whE;rw[j3 V,j3 J]
  have U:whQ a b=0:=by unfold whQ;rw[j4 (by omega)]
  have T:whR a b=tmZ:=by unfold whR;rw[j4 (by omega)]
  refine gq ?_;refine kL (.many (by decide) (.cons (.tmp rfl (kC ?_)) (.cons (.cellA rfl rfl rfl rfl ty83 (kC ?_)) (.cons (.tmp rfl (kC ?_)) .nil))));all_goals(first|exact zE U|exact zE hE|exact zE T|(rw[hE,Z];done))
 have hE:whE a b=tmkE (a.N*b.D%(b.N*a.D)) (a.D*b.D):=by unfold whE;rw[j3 V,j4 J]
 have m5:0<b.N*a.D:=by have:=mulP (x:=b.N) (y:=a.D) (by omega) (by omega);omega
 have e0:=uH (a.N*b.D) (show b.N*a.D≠0 by omega);have e1:=wW (a.N*b.D) m5;refine gc (zgH (a.N*b.D) (b.N*a.D) (by omega) (by omega) m5) ?_;refine gc (zdg (a.N*b.D%(b.N*a.D)) (a.D*b.D) (by omega) (by omega) (by omega)) ?_;refine gd ?_ ?_<;>intro Z
 ·have U:whQ a b=0:=by unfold whQ;rw[hE,j4 Z]
  have T:whR a b=tmZ:=by unfold whR;rw[hE,j4 Z]
  refine gq ?_;refine kL (.many (by decide) (.cons (.tmp rfl (kC ?_)) (.cons (.cellA rfl rfl rfl rfl ty83 (kC ?_)) (.cons (.tmp rfl (kC ?_)) .nil))));all_goals(first|exact zE U|exact zE hE|exact zE T|(rw[hE,Z];done))
 have U:whQ a b=a.N*b.D/(b.N*a.D):=by unfold whQ;rw[hE,j3 Z]
 have T:whR a b=tmkT (a.N*b.D%(b.N*a.D)) (a.D*b.D):=by unfold whR;rw[hE,j3 Z]
 refine gq ?_;refine yW [4,52,53] [0,0,1,7,15] mo ?_;iterate 3 refine yb ?_
 refine yF ?_;refine gq ?_;refine kL (.many (by decide) (.cons (.tmp rfl (kC ?_)) (.cons (.cellA rfl rfl rfl rfl ty83 (kC ?_)) (.cons (.tmp rfl (kC ?_)) .nil))));all_goals(first|exact zE U|exact zE hE|exact zE T|(rw[hE,Z];done))
end
section
attribute [local irreducible] Pur yA yC Ex X Fn Imp LeV LeB FnO It yH
attribute [local irreducible] gI
def zjX(a b:Tm):yM [a,b]=if ckT a=0 then ckT b else ckT a:=by
 simp only[yM];by_cases Z:ckT a=0
 ·rw[j3 Z,j3 Z];by_cases V:ckT b=0
  ·rw[j3 V,V]
  ·rw[j4 V]
 ·rw[j4 Z,j4 Z]
def zaF(a b:Int)(h0:0<=a)(U:a<=9223372036854775807)(T:0<=b)(Q:b<=9223372036854775807):Fn prog 199 [iv a,iv b] (iv (gI a b)):=by
 refine kF func199 ntmps199 (λg w d=>?_);refine gq ?_;refine zd3 (ι:=Int×Int) (λ(p:Int×Int)=>[(0,iv p.1),(1,iv p.2)]) (λ(p:Int×Int)=>[]) (λ(p:Int×Int)=>0<=p.1/\0<=p.2/\p.1<=9223372036854775807/\p.2<=9223372036854775807/\gI p.1 p.2=gI a b) (λ(p:Int×Int)=>p.2.toNat) (a,b) (λp N=>?_) (hJ:=by exact⟨h0,T,U,Q,rfl⟩);obtain⟨x,y⟩:=p;obtain⟨k1,k2,k3,k4,k5⟩:=N;dsimp only at*
 refine gd ?_ ?_<;>intro Z
 ·have e0:=uH x (show y≠0 by omega);have e1:=wW x Z;refine gq ?_;refine yz ((y,x%y)) (hJ:=by exact⟨by omega,e0,by dsimp only;omega,by dsimp only;omega,by rw[←k5];exact zk2 k1 Z⟩)
 ·have V:y=0:=by omega
  subst V;refine gq ?_;all_goals(rw[←k5,zk1 k1])
def zO(t:Tm):Fn prog 172 [tmA t] (iv (ckT t)):=by
 refine kF func172 ntmps172 (λg w d=>?_);apply ye;refine zH ?_;refine yh ?_;apply yf;apply ye;iterate 3 refine ya ?_
 refine kI 3 ?_;refine yp ?_;iterate 3 refine kG ?_
 iterate 2 refine yp ?_
 iterate 3 refine kG ?_
 iterate 2 refine yp ?_
 iterate 3 refine kG ?_
 refine gf ?_ ?_<;>intro Z
 ·refine gq ?_;all_goals(congr 1;unfold ckT;rw[j3 (by omega)])
 have U:=zcf (n:=t.N) (d:=t.D) (by omega);refine gc (zaF t.N t.D (by omega) (by omega) (by omega) (by omega)) ?_;refine gd ?_ ?_<;>intro V
 ·refine gq ?_;all_goals(congr 1;unfold ckT;rw[j4 (by omega),j3 (by omega)])
 refine gq ?_;all_goals(congr 1;unfold ckT;rw[j4 (by omega),j4 (by omega)])
def zbX(n q:Int)(h0:0<=n)(U:n<=9223372036854775807)(T:1<=q)(Q:q<=9223372036854775807):Fn prog 148 [iv n,iv q] (.tup [tmA (tmkT n q),iv (tmkE n q)]):=by
 have N:=zcf (n:=n) (d:=q) (by omega);refine kF func148 ntmps148 (λg w d=>?_);refine gq ?_;refine yP (zaF n q (by omega) (by omega) (by omega) (by omega)) ?_;refine ya ?_;apply yG;iterate 4 refine ya ?_
 apply yG;refine ya ?_;refine yE ?_;apply yf;apply ye;iterate 2 refine ya ?_
 refine kI 2 ?_;refine yp ?_;iterate 2 refine kG ?_
 refine gf ?_ ?_<;>intro Z
 ·have hE:tmkE n q=4:=by unfold tmkE;rw[j4 (by omega),j4 (by omega),j3 Z]
  have V:tmkT n q=tmZ:=by unfold tmkT;rw[j4 (by omega)]
  refine gq ?_;refine yr ty83 ?_ ?_;all_goals(first|exact zE hE|exact zE V)
 have hE:tmkE n q=0:=by unfold tmkE;rw[j4 (by omega),j4 (by omega),j4 (λh=>by omega)]
 have V:tmkT n q=⟨n/gI n q,q/gI n q⟩:=by unfold tmkT;rw[j3 hE]
 refine gq ?_;refine yr ty83 ?_ ?_;all_goals(first|exact zE hE|exact zE V)
def zcS(n q:Int)(h0:n<=9223372036854775807)(T:q<=9223372036854775807):Fn prog 274 [iv n,iv q] (.tup [tmA (tmkT n q),iv (tmkE n q)]):=by
 refine kF func274 ntmps274 (λg w d=>?_);apply ye;refine zk ?_;refine yh ?_;apply yf;apply ye;iterate 2 refine ya ?_
 refine kI 2 ?_;refine yp ?_;iterate 2 refine kG ?_
 refine gf ?_ ?_<;>intro V
 ·have hE:tmkE n q=2:=by unfold tmkE;rw[j3 V]
  have Z:tmkT n q=tmZ:=by unfold tmkT;rw[j4 (by omega)]
  refine gq ?_;refine yr ty83 ?_ ?_;all_goals(first|rfl|exact zE hE|exact zE Z)
 refine gd ?_ ?_<;>intro U
 ·have hE:tmkE n q=5:=by unfold tmkE;rw[j4 (by omega),j3 U]
  have Z:tmkT n q=tmZ:=by unfold tmkT;rw[j4 (by omega)]
  refine gq ?_;refine yr ty83 ?_ ?_;all_goals(first|rfl|exact zE hE|exact zE Z)
 refine gc (zbX n q (by omega) (by omega) (by omega) (by omega)) ?_;refine yr ty83 ?_ ?_;all_goals(first|rfl|exact zE hE|exact zE Z)
def zW(a b:Tm):Fn prog 147 [tmA a,tmA b] (iv (yM [a,b])):=by
 refine kF func147 ntmps147 (λg w d=>?_);refine gc (zO a) ?_;refine gd ?_ ?_<;>intro Z
 ·refine gq ?_;all_goals(congr 1;rw[zjX,j4 Z])
 refine gc (zO b) ?_;all_goals(congr 1;rw[zjX,j3 Z])
def zaa(a b:Tm):Fn prog 277 [tmA a,tmA b] (.tup [tmA (subV a b),iv (subE a b)]):=by
 refine kF func277 ntmps277 (λg w d=>?_);refine gc (zW a b) ?_;refine gd ?_ ?_<;>intro Z
 ·have hE:subE a b=yM [a,b]:=by unfold subE;rw[j4 Z]
  have V:subV a b=tmZ:=by unfold subV;rw[j4 Z]
  refine gq ?_;refine yr ty83 ?_ ?_;all_goals(first|exact zE hE|exact zE V)
 have U:=zbY Z;have b1:=z7 U.1;have b2:=z7 U.2;have m1:=mulB b1.1 b1.2.1 b2.2.2.1 b2.2.2.2.1;have m2:=mulB b2.1 b2.2.1 b1.2.2.1 b1.2.2.2.1;have m3:=mulB b1.2.2.1 b1.2.2.2.1 b2.2.2.1 b2.2.2.2.1;have m4:=mulP b1.2.2.2.2.1 b2.2.2.2.2.1;have hE:subE a b=tmkE (a.N*b.D-b.N*a.D) (a.D*b.D):=by unfold subE;rw[j3 Z]
 have V:subV a b=tmkT (a.N*b.D-b.N*a.D) (a.D*b.D):=by unfold subV;rw[j3 Z]
 refine gd ?_ ?_<;>intro T
 ·have Q:tmkE (a.N*b.D-b.N*a.D) (a.D*b.D)=2:=by unfold tmkE;rw[j3 (by omega)]
  have J:tmkT (a.N*b.D-b.N*a.D) (a.D*b.D)=tmZ:=by unfold tmkT;rw[j4 (by omega)]
  rw[Q]at hE;rw[J]at V;refine gq ?_;refine yr ty83 ?_ ?_;all_goals(first|exact zE hE|exact zE V)
 refine gc (zbX (a.N*b.D-b.N*a.D) (a.D*b.D) (by omega) (by omega) (by omega) (by omega)) ?_;refine yr ty83 ?_ ?_;all_goals(first|exact zE hE|exact zE V)
def zbO(a b:Tm):Fn prog 309 [tmA a,tmA b] (.tup [iv (cmpV a b),iv (yM [a,b])]):=by
 refine kF func309 ntmps309 (λg w d=>?_);refine gc (zW a b) ?_;refine gd ?_ ?_<;>intro Z
 ·have V:cmpV a b=0:=by unfold cmpV;rw[j4 Z]
  refine gq ?_;refine ym ?_ ?_;all_goals(first|exact zE V|rfl|exact zE Z)
 have U:=zbY Z;have b1:=z7 U.1;have b2:=z7 U.2;have m1:=mulB b1.1 b1.2.1 b2.2.2.1 b2.2.2.2.1;have m2:=mulB b2.1 b2.2.1 b1.2.2.1 b1.2.2.2.1;have m3:=mulB b1.2.2.1 b1.2.2.2.1 b2.2.2.1 b2.2.2.2.1;have m4:=mulP b1.2.2.2.2.1 b2.2.2.2.2.1;refine gq ?_;refine yW [7,8,15,16,17,18,19,20,21,22,23,24] [0,1,0,4,15,0,32,0,128,480,31,2047] mo ?_;iterate 12 refine yb ?_
 refine yF ?_;refine gd ?_ ?_<;>intro T
 ·have V:cmpV a b=-1:=by unfold cmpV;rw[j3 Z,j3 (by omega)]
  refine gq ?_;refine ym ?_ ?_;all_goals(first|exact zE V|rfl|exact zE Z)
 refine gd ?_ ?_<;>intro Q
 ·have V:cmpV a b=1:=by unfold cmpV;rw[j3 Z,j4 (by omega),j3 (by omega)]
  refine gq ?_;refine ym ?_ ?_;all_goals(first|exact zE V|rfl|exact zE Z)
 have V:cmpV a b=0:=by unfold cmpV;rw[j3 Z,j4 (by omega),j4 (by omega)]
 refine gq ?_;refine ym ?_ ?_;all_goals(first|exact zE V|rfl|exact zE Z)
end
section
attribute [local irreducible] Pur yA yC Ex X Fn Imp LeV LeB FnO It yH
def Mn.ok_L(m:Mn):m.Ok↔∀v∈mnL m,two3 v:=by simp[Mn.Ok,mnL]
theorem zqL{m:Mn}{w:Int}(h:4<w):m.p w=2:=by
 unfold Mn.p;rw[j4 (by omega),j4 (by omega),j4 (by omega),j4 (by omega)]
def zn7{m:Mn}{v:Int}(h:ckMV m v=0):1<=v/\v<=8:=by
 unfold ckMV at h;split at h
 ·split at h
  ·assumption
  ·omega
 ·omega
def zsW{m:Mn}{v w:Int}(N:1<=w)(hv:w<v)(U:m.p w=3)(hJ:∀u,w<u->u<v->m.p u≠3):m.ab v=w:=by
 have J:w<=4:=by
  rcases Int.lt_or_le 4 w with h|h
  ·rw[zqL h]at U;omega
  ·exact h
 have V:∀u,w<u->decide (decide (m.p u=3)=true/\decide (u<v)=true)=false:=λu h=>by
  by_cases T:m.p u=3
  ·have:¬u<v:=λQ=>hJ u h Q T
   simp[this]
  ·simp[T]
 have Z:decide (decide (m.p w=3)=true/\decide (w<v)=true)=true:=by simp[U,hv]
 unfold Mn.ab perfL;rw[List.find?_filter];have:w=1\/w=2\/w=3\/w=4:=by omega
 rcases this with rfl|rfl|rfl|rfl
 ·simp only[vZ,V 4 (by omega),V 3 (by omega),V 2 (by omega),Z];rfl
 ·simp only[vZ,V 4 (by omega),V 3 (by omega),Z];rfl
 ·simp only[vZ,V 4 (by omega),Z];rfl
 ·simp only[vZ,Z];rfl
def zsX{m:Mn}{v:Int}(hJ:∀u,1<=u->u<v->m.p u≠3):m.ab v=0:=zoc λi _ k V h=>by
 have hm:k∈perfL m:=j6 V;have Z:=wO.1 hm;have U:m.p k=3:=by simpa using Z.2
 have T:1<=k:=by have:=Z.1;simp at this;omega
 exact hJ k T h U
def zn(m:Mn):Fn prog 125 [mnA m] (iv (ckM m)):=by
 refine kF func125 ntmps125 (λg w d=>?_);refine gq ?_;refine yD intE [_,_,_,_] ?_;refine yh ?_;iterate 2 apply yf
 refine kJ (k9 (k:=13) rfl) ?_;apply yj;refine yh ?_;apply kB;refine zM (λk=>[(3,yc (mnL m)),(4,iv (k:Int))]) (λk=>[]) (λk=>k<=4/\∀i v,i<k->(mnL m)[i]? =some v->two3 v) 4 (λk U=>?_) (hJ:=by exact⟨by omega,λi v h=>absurd h (wT i)⟩) (h0:=yd);obtain⟨T,Z⟩:=U;have Q:(mnL m).length=4:=rfl;refine gd ?_ ?_<;>intro N
 ·obtain⟨v,hv⟩:∃v,(mnL m)[k]? =some v:=⟨_,lgg (by omega)⟩;have J:(mnL m)[(k:Int).toNat]? =some v:=by simpa using hv
  apply yk;apply yf;apply kB;apply ye;iterate 5 refine ya ?_
  refine kI 5 ?_;refine yp ?_;iterate 5 refine kG ?_
  refine gf ?_ ?_<;>intro I
  ·refine gq ?_;all_goals(congr 1;unfold ckM;rw[j4 (λh=>by have:=(m.ok_L.1 h) v (j6 hv);unfold two3 at this;omega)])
  refine gq ?_
  refine yz (k+1) (hJ:=by
   refine⟨by omega,λi u hi V=>?_⟩;rcases w6.1 hi with h|h
   ·exact Z i u h V
   ·subst h;rw[hv]at V;injection V with V;subst V;unfold two3;omega)
 ·refine gq ?_;all_goals(congr 1;unfold ckM;rw[j3 (m.ok_L.2 λv hv=>by obtain⟨i,hi⟩:=jP.1 hv;exact Z i v (by have:=(j1.1 hi).1;omega) hi)])
def yX(m:Mn)(v:Int):Fn prog 149 [mnA m,iv v] (iv (m.p v)):=by
 refine kF func149 ntmps149 (λg w d=>?_);refine gd ?_ ?_<;>intro Z
 ·refine gq ?_;all_goals(congr 1;unfold Mn.p;simp[*])
 refine gd ?_ ?_<;>intro V
 ·refine gq ?_;all_goals(congr 1;unfold Mn.p;simp[*])
 refine gd ?_ ?_<;>intro U
 ·refine gq ?_;all_goals(congr 1;unfold Mn.p;simp[*])
 refine gd ?_ ?_<;>intro T
 ·refine gq ?_;all_goals(congr 1;unfold Mn.p;simp[*])
 refine gq ?_;all_goals(congr 1;unfold Mn.p;simp[*])
def zcm(m:Mn)(v:Int):Fn prog 180 [mnA m,iv v] (iv (ckMV m v)):=by
 refine kF func180 ntmps180 (λg w d=>?_);refine gc (zn m) ?_;refine gd ?_ ?_<;>intro Z
 ·refine gq ?_;all_goals(by_cases hm:m.Ok<;>simp_all[ckM,ckMV]<;>omega)
 apply yk;apply yf;apply ye;iterate 2 refine ya ?_
 refine kI 2 ?_;refine yp ?_;iterate 2 refine kG ?_
 refine gf ?_ ?_<;>intro V
 ·refine gq ?_;all_goals(by_cases hm:m.Ok<;>simp_all[ckM,ckMV]<;>omega)
 refine gq ?_;all_goals(by_cases hm:m.Ok<;>simp_all[ckM,ckMV]<;>omega)
def zft(m:Mn)(v:Int):Fn prog 132 [mnA m,iv v] (.tup [iv (if ckMV m v=0 then m.ab v else 0),iv (ckMV m v)]):=by
 refine kF func132 ntmps132 (λg w d=>?_);refine gc (zcm m v) ?_;refine gd ?_ ?_<;>intro Z
 ·refine gq ?_;refine ym ?_ ?_;all_goals(first|(simp_all;done))
 apply yk;iterate 2 apply yf
 have N:=zn7 Z;refine gq ?_;refine zd3 (ι:=Nat) (λ(k:Nat)=>[(2,.ptr 2 0 0 0),(7,iv (v-1-(k:Int)))]) (λ(k:Nat)=>[(2,.box (mnE m) 23)]) (λ(k:Nat)=>(k:Int)<=v-1/\∀u,v-1-(k:Int)<u->u<v->m.p u≠3) (λ(k:Nat)=>(v-1-k).toNat) 0 (λk J=>?_) (hJ:=by exact⟨by omega,λu Q U=>by omega⟩);obtain⟨I,V⟩:=J;refine gd ?_ ?_<;>intro H
 ·refine gc (yX m _) ?_;refine gd ?_ ?_<;>intro T
  ·refine gq ?_;refine ym ?_ ?_;all_goals(first|(rw[j3 Z,zsW (by omega) (by omega) T (λu Q U=>V u Q U)];done)|(simp_all;done))
  refine gq ?_
  refine yz (k+1) (hJ:=by
   refine⟨by omega,λu Q U=>?_⟩;by_cases e:u=v-1-(k:Int)
   ·rw[e];exact T
   ·exact V u (by omega) U)
 ·refine gq ?_;refine ym ?_ ?_;all_goals(first|(rw[j3 Z,zsX (λu Q U=>V u (by omega) U)];done)|(simp_all;done))
end
end Go.Rse
