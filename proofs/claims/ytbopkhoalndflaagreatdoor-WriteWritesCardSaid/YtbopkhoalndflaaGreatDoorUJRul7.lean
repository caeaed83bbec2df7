/-
  Walks.
-/
import Derived.Test.YtbopkhoalndflaaGreatDoorUJRul5
import Derived.Test.YtbopkhoalndflaaGreatDoorUJRef22c
set_option linter.all false
namespace Go.Rse
open Go Go.Proofs Go.Proofs.Tryz
section
attribute [local irreducible] Pur yA yC Ex X Fn Imp LeV LeB FnO It yH FnW FnOW FnP FnD
attribute [local irreducible] leE leC leI rdI rdE rdV ckD zh twos prL itmV itmE
set_option maxHeartbeats 4000000 in
def zmD(m:Mn)(l:List Sg)(hl:l.length<=1000):Fn prog 93 [mnA m,sgsA l] (.tup [rdgA (rdV m l),iv (rdE m l)]):=by
 have hR:=zmc m l hl;have x4:=zk7 (m:=m) (l:=l);have x3:=zk8 m (rdI m l);have V:(twos (prL m l).length).length<=1000:=by rw[zc7];have:=zfn m l;omega
 have x2:(zh m l).length<=4000000:=by have:=zi1 m l;have:=zgB m l;omega
 refine kC func93 ntmps93 (λg w d=>?_);refine gc (zaO m l hl) ?_;refine gd ?_ ?_<;>intro U
 ·have T:=zya U;obtain⟨hE,Z⟩:=T;apply ye;iterate 2 refine ya ?_
  refine kI ?_;refine yi ?_;refine kE ?_;refine k8 (bC (ts:=[(4,.ptr 4 0 0 0),(5,iv (ckD m l))]) (hs:=[(4,.box [yc [],yc [],yc [],tmsA []] 75)]) ⟨⟨_,rfl,kU _⟩,⟨_,rfl,kU _⟩,True.intro⟩ ⟨⟨_,rfl,LeB.box (.cons (kO _) (.cons (kO _) (.cons (kO _) (.cons (kO _) .nil))))⟩,True.intro⟩) ?_;refine yD ty75 ?_ ?_;all_goals(first|exact j6 (λz=>AV.agg (rdgE z)) Z.symm|exact j6 (λz=>AV.int .i64 z) hE.symm)
 have h0:ckD m l=0:=by omega
 rw[j4 h0,h0]at hR;have Q:=zqf h0
 have hI:Fn prog 138 [mnA m,sgsA l,yc (zh m l),yc (twos (prL m l).length)] (.tup [itsA (rdI m l),iv 0]):=by
  have h:=zk6 m l (zh m l) (twos (prL m l).length) hl V;rw[Q]at h;unfold rdI;exact h
 refine gc hR ?_;refine gd ?_ ?_<;>intro N
 ·exact absurd rfl N
 refine gc hI ?_;refine gd ?_ ?_<;>intro J
 ·exact absurd rfl J
 refine gc (zj8 m (rdI m l) (by omega)) ?_;refine gd ?_ ?_<;>intro I
 ·have H:=zyb h0 I;obtain⟨hE,Z⟩:=H;apply ye;iterate 2 refine ya ?_
  refine kI ?_;refine yi ?_;refine kE ?_;refine k8 (bC (ts:=[(4,.ptr 4 0 0 0),(5,iv (leE m (rdI m l)))]) (hs:=[(4,.box [yc [],yc [],yc [],tmsA []] 75)]) ⟨⟨_,rfl,kU _⟩,⟨_,rfl,kU _⟩,True.intro⟩ ⟨⟨_,rfl,LeB.box (.cons (kO _) (.cons (kO _) (.cons (kO _) (.cons (kO _) .nil))))⟩,True.intro⟩) ?_;refine yD ty75 ?_ ?_;all_goals(first|exact j6 (λz=>AV.agg (rdgE z)) Z.symm|exact j6 (λz=>AV.int .i64 z) hE.symm)
 have h2:leE m (rdI m l)=0:=by omega
 have E:=zyc h0 h2;obtain⟨hE,xT⟩:=E;have x1:[]=((leI m (rdI m l)).take 0).map (λx=>x.Dur):=by simp
 apply yl;apply ye;iterate 4 refine ya ?_
 refine zb ?_;refine kI ?_;apply kL;iterate 2 apply yf
 refine kJ (st':=⟨[(4,.ptr 4 0 0 0),(10,itsA (leI m (rdI m l))),(12,.ptr 12 0 0 0)],[(4,.box [.nils,.nils,.nils,.nils] 75),(12,.box [yc (zh m l),yc (twos (prL m l).length),yc (leC m (rdI m l)),.own 40] 75),(40,.row tmE [] 83 2)]⟩) ((zem tmE 83 2 12 40 3 75 _ [yc (zh m l),yc (twos (prL m l).length),yc (leC m (rdI m l)),.own 40] rfl rfl rfl rfl).trans yd) ?_;apply yj;refine yq ?_;apply kA;refine ze (λn=>[(4,.ptr 4 0 0 0),(12,.ptr 12 0 0 0),(60,itsA (leI m (rdI m l))),(61,iv (leI m (rdI m l)).length),(62,iv (n:Int))]) (λn=>[(4,.box [.nils,.nils,.nils,.nils] 75),(12,.box [yc (zh m l),yc (twos (prL m l).length),yc (leC m (rdI m l)),.own 40] 75),(40,.row tmE (((leI m (rdI m l)).take n).map (λx=>x.Dur)) 83 2)]) ((leI m (rdI m l)).length) (λn hk=>?_);refine gd ?_ ?_<;>intro x0
 ·obtain⟨x,hx⟩:∃x,(leI m (rdI m l))[n]? =some x:=⟨_,lgg (by omega)⟩;have w2:(leI m (rdI m l))[(n:Int).toNat]? =some x:=by simpa using hx
  have v9:=zqg hx;have v8:(((leI m (rdI m l)).take n).map (λx=>x.Dur)).length<=1000:=by rw[jO,jL];omega
  refine gq ?_;refine yz tmE [⟨_,_⟩] ?_;refine gq ?_;refine yo (n+1) (hI:=yg)
 ·have hn:n=(leI m (rdI m l)).length:=by omega
  subst hn;have Z:rdV m l=⟨zh m l,twos (prL m l).length,leC m (rdI m l),((leI m (rdI m l)).take (leI m (rdI m l)).length).map (λx=>x.Dur)⟩:=by rw[xT,j9]
  apply kK;apply yf;refine kJ (st':=⟨[(4,.ptr 4 0 0 0),(12,.ptr 12 0 0 0)],[(4,.box [.nils,.nils,.nils,.nils] 75),(12,.box [yc (zh m l),yc (twos (prL m l).length),yc (leC m (rdI m l)),tmsA (((leI m (rdI m l)).take (leI m (rdI m l)).length).map (λx=>x.Dur))] 75)]⟩) ((k9 (k:=40) rfl).trans yd) ?_;refine gq ?_;refine yD ty75 ?_ ?_;all_goals(first|exact j6 (λz=>AV.agg (rdgE z)) Z.symm|exact j6 (λz=>AV.int .i64 z) hE.symm)
set_option maxHeartbeats 4000000 in
def zgl(m:Mn)(l:List Sg)(hl:l.length<=1000):Fn prog 136 [mnA m,sgsA l] (.tup [rdgA (rdV m l),iv (rdE m l)]):=by
 have hR:=zga m l hl;have x3:=zk7 (m:=m) (l:=l);have x2:=zk8 m (rdI m l);have T:(twos (prL m l).length).length<=1000:=by rw[zc7];have:=zfn m l;omega
 have Q:(zh m l).length<=4000000:=by have:=zi1 m l;have:=zgB m l;omega
 refine kC func136 ntmps136 (λg w d=>?_);refine gc (zH m l hl) ?_;refine gd ?_ ?_<;>intro N
 ·have J:=zya N;obtain⟨hE,Z⟩:=J;apply ye;iterate 2 refine ya ?_
  refine kI ?_;refine yi ?_;refine kE ?_;refine k8 (bC (ts:=[(4,.ptr 4 0 0 0),(5,iv (ckD m l))]) (hs:=[(4,.box [yc [],yc [],yc [],tmsA []] 75)]) ⟨⟨_,rfl,kU _⟩,⟨_,rfl,kU _⟩,True.intro⟩ ⟨⟨_,rfl,LeB.box (.cons (kO _) (.cons (kO _) (.cons (kO _) (.cons (kO _) .nil))))⟩,True.intro⟩) ?_;refine yD ty75 ?_ ?_;all_goals(first|exact j6 (λz=>AV.agg (rdgE z)) Z.symm|exact j6 (λz=>AV.int .i64 z) hE.symm)
 have h0:ckD m l=0:=by omega
 rw[j4 h0,h0]at hR;have I:=zqf h0
 have hI:Fn prog 184 [mnA m,sgsA l,yc (zh m l),yc (twos (prL m l).length)] (.tup [itsA (rdI m l),iv 0]):=by
  have h:=zfG m l (zh m l) (twos (prL m l).length) hl Q T;rw[I]at h;unfold rdI;exact h
 refine gc hR ?_;refine gc hI ?_;refine gc (zeW m (rdI m l) (by omega)) ?_;refine gd ?_ ?_<;>intro H
 ·have E:=zyb h0 H;obtain⟨hE,Z⟩:=E;apply ye;iterate 2 refine ya ?_
  refine kI ?_;refine yi ?_;refine kE ?_;refine k8 (bC (ts:=[(4,.ptr 4 0 0 0),(5,iv (leE m (rdI m l)))]) (hs:=[(4,.box [yc [],yc [],yc [],tmsA []] 75)]) ⟨⟨_,rfl,kU _⟩,⟨_,rfl,kU _⟩,True.intro⟩ ⟨⟨_,rfl,LeB.box (.cons (kO _) (.cons (kO _) (.cons (kO _) (.cons (kO _) .nil))))⟩,True.intro⟩) ?_;refine yD ty75 ?_ ?_;all_goals(first|exact j6 (λz=>AV.agg (rdgE z)) Z.symm|exact j6 (λz=>AV.int .i64 z) hE.symm)
 have h2:leE m (rdI m l)=0:=by omega
 have xT:=zyc h0 h2;obtain⟨hE,x4⟩:=xT;have x1:[]=((leI m (rdI m l)).take 0).map (λx=>x.Dur):=by simp
 apply yl;apply ye;iterate 4 refine ya ?_
 refine zb ?_;refine kI ?_;apply kL;iterate 2 apply yf
 refine kJ (st':=⟨[(4,.ptr 4 0 0 0),(10,itsA (leI m (rdI m l))),(13,.ptr 13 0 0 0)],[(4,.box [.nils,.nils,.nils,.nils] 75),(13,.box [yc (zh m l),yc (twos (prL m l).length),yc (leC m (rdI m l)),.own 40] 75),(40,.row tmE [] 83 2)]⟩) ((zem tmE 83 2 13 40 3 75 _ [yc (zh m l),yc (twos (prL m l).length),yc (leC m (rdI m l)),.own 40] rfl rfl rfl rfl).trans yd) ?_;apply yj;refine yi ?_;apply kA;refine ze (λn=>[(4,.ptr 4 0 0 0),(13,.ptr 13 0 0 0),(10,itsA (leI m (rdI m l))),(14,iv (n:Int))]) (λn=>[(4,.box [.nils,.nils,.nils,.nils] 75),(13,.box [yc (zh m l),yc (twos (prL m l).length),yc (leC m (rdI m l)),.own 40] 75),(40,.row tmE (((leI m (rdI m l)).take n).map (λx=>x.Dur)) 83 2)]) ((leI m (rdI m l)).length) (λn hk=>?_);refine gd ?_ ?_<;>intro x0
 ·obtain⟨x,hx⟩:∃x,(leI m (rdI m l))[n]? =some x:=⟨_,lgg (by omega)⟩;have V:(leI m (rdI m l))[(n:Int).toNat]? =some x:=by simpa using hx
  have w2:=zqg hx;have v9:(((leI m (rdI m l)).take n).map (λx=>x.Dur)).length<=1000:=by rw[jO,jL];omega
  refine gq ?_;refine kY [⟨0,58,.ptr 13 0 0 (0+3),[]⟩,⟨2,60,itsA (leI m (rdI m l)),[]⟩,⟨3,61,iv (n:Int),[]⟩,⟨4,62,.ept itE x 0,[3,2]⟩,⟨5,63,.ept itE x (0+6),[3,2,4]⟩,⟨6,64,tmA x.Dur,[3,2,4,5]⟩,⟨7,65,tmsA [x.Dur],[3,2,4,5,6]⟩,⟨9,67,.ptr 13 0 0 (0+3),[8,7,6,5,4,3,2,1,0]⟩] [(1,[0]),(8,[3,2,4,5,6,0,7,1]),(10,[7,6,5,4,3,2,1,0,8,9])] (λj=>match j with|0=>⟨[(4,.ptr 4 0 0 0),(13,.ptr 13 0 0 0),(10,itsA (leI m (rdI m l))),(14,iv (n:Int))],[(4,.box [.nils,.nils,.nils,.nils] 75),(13,.box [yc (zh m l),yc (twos (prL m l).length),yc (leC m (rdI m l)),.own 40] 75),(40,.row tmE (((leI m (rdI m l)).take n).map (λx=>x.Dur)) 83 2)]⟩|1=>⟨[(4,.ptr 4 0 0 0),(13,.ptr 13 0 0 0),(10,itsA (leI m (rdI m l))),(14,iv (n:Int)),(59,.own 40)],[(4,.box [.nils,.nils,.nils,.nils] 75),(13,.box [yc (zh m l),yc (twos (prL m l).length),yc (leC m (rdI m l)),.own 40] 75),(40,.row tmE (((leI m (rdI m l)).take n).map (λx=>x.Dur)) 83 2)]⟩|2=>⟨[(4,.ptr 4 0 0 0),(13,.ptr 13 0 0 0),(10,itsA (leI m (rdI m l))),(14,iv (n:Int)),(66,.own 40)],[(4,.box [.nils,.nils,.nils,.nils] 75),(13,.box [yc (zh m l),yc (twos (prL m l).length),yc (leC m (rdI m l)),.any] 75),(40,.row tmE (((leI m (rdI m l)).take n).map (λx=>x.Dur)++[x.Dur]) 83 2)]⟩|_=>⟨[(4,.ptr 4 0 0 0),(13,.ptr 13 0 0 0),(10,itsA (leI m (rdI m l))),(14,iv (n:Int))],[(4,.box [.nils,.nils,.nils,.nils] 75),(13,.box [yc (zh m l),yc (twos (prL m l).length),yc (leC m (rdI m l)),.own 40] 75),(40,.row tmE (((leI m (rdI m l)).take n).map (λx=>x.Dur)++[x.Dur]) 83 2)]⟩) mo (by kernel_rfl) (zt (yd)) (λj hj=>?_) (λj c U β hβ=>?_) ?_
  ·rcases j with _|_|_|_|j
   ·(iterate 3 refine⟨.inr ⟨_,rfl,rfl,rfl,rfl,k7 yO⟩,?_⟩);refine⟨.inr ⟨_,rfl,rfl,rfl,rfl,k7 (zal (enc:=itE) (l:=(leI m (rdI m l))) (u:=x) rfl rfl SlK.h TyK.h (λ_=>rfl) (by omega) V)⟩,?_⟩;(iterate 2 refine⟨.inr ⟨_,rfl,rfl,rfl,rfl,k7 yO⟩,?_⟩);refine⟨.inr ⟨_,rfl,rfl,rfl,rfl,yF (enc:=tmE) (l:=[x.Dur]) sl50 ty83 ze83 (by decide) rfl rfl rfl rfl (by decide) (by decide) (λ_=>rfl) rfl⟩,?_⟩;exact yJ
   ·refine⟨.inl rfl,?_⟩;(iterate 2 refine⟨.inr ⟨_,rfl,rfl,rfl,rfl,k7 yO⟩,?_⟩);refine⟨.inr ⟨_,rfl,rfl,rfl,rfl,k7 (zal (enc:=itE) (l:=(leI m (rdI m l))) (u:=x) rfl rfl SlK.h TyK.h (λ_=>rfl) (by omega) V)⟩,?_⟩;(iterate 2 refine⟨.inr ⟨_,rfl,rfl,rfl,rfl,k7 yO⟩,?_⟩);refine⟨.inr ⟨_,rfl,rfl,rfl,rfl,yF (enc:=tmE) (l:=[x.Dur]) sl50 ty83 ze83 (by decide) rfl rfl rfl rfl (by decide) (by decide) (λ_=>rfl) rfl⟩,?_⟩;exact yJ
   ·exact yJ
   ·exact yJ
   ·exact absurd (show j+4<=3 from hj) (by omega)
  ·rcases j with _|_|_|j
   ·obtain rfl:(1,[0])=c:=by injection U
    refine yw rfl (yr (st0:=⟨[(58,.ptr 13 0 0 (0+3)),(60,.ifb (β 2) (itsA (leI m (rdI m l)))),(61,.ifb (β 3) (iv (n:Int))),(62,.ifb (β 4) (.ept itE x 0)),(63,.ifb (β 5) (.ept itE x (0+6))),(64,.ifb (β 6) (tmA x.Dur)),(65,.ifb (β 7) (tmsA [x.Dur])),(67,.ifb (β 9) (.ptr 13 0 0 (0+3))),(4,.ptr 4 0 0 0),(13,.ptr 13 0 0 0),(10,itsA (leI m (rdI m l))),(14,iv (n:Int))],[(4,.box [.nils,.nils,.nils,.nils] 75),(13,.box [yc (zh m l),yc (twos (prL m l).length),yc (leC m (rdI m l)),.own 40] 75),(40,.row tmE (((leI m (rdI m l)).take n).map (λx=>x.Dur)) 83 2)]⟩) (ym) ?_);refine yC.imp (yS (k7 yO) rfl rfl) (ym)
   ·obtain rfl:(8,[3,2,4,5,6,0,7,1])=c:=by injection U
    refine yw rfl (yr (st0:=⟨[(58,.ptr 13 0 0 (0+3)),(60,itsA (leI m (rdI m l))),(61,iv (n:Int)),(62,.ept itE x 0),(63,.ept itE x (0+6)),(64,tmA x.Dur),(65,tmsA [x.Dur]),(67,.ifb (β 9) (.ptr 13 0 0 (0+3))),(4,.ptr 4 0 0 0),(13,.ptr 13 0 0 0),(10,itsA (leI m (rdI m l))),(14,iv (n:Int)),(59,.own 40)],[(4,.box [.nils,.nils,.nils,.nils] 75),(13,.box [yc (zh m l),yc (twos (prL m l).length),yc (leC m (rdI m l)),.own 40] 75),(40,.row tmE (((leI m (rdI m l)).take n).map (λx=>x.Dur)) 83 2)]⟩) (ym) ?_);refine yC.imp (zv (l2:=[x.Dur]) rfl rfl rfl sl50 ti83 (by decide) (by decide) (λ_=>rfl) (λ_=>rfl) (by simp only[jY,u4];omega) rfl) (ym)
   ·obtain rfl:(10,[7,6,5,4,3,2,1,0,8,9])=c:=by injection U
    refine yw rfl (yr (st0:=⟨[(58,.ptr 13 0 0 (0+3)),(60,itsA (leI m (rdI m l))),(61,iv (n:Int)),(62,.ept itE x 0),(63,.ept itE x (0+6)),(64,tmA x.Dur),(65,tmsA [x.Dur]),(67,.ptr 13 0 0 (0+3)),(4,.ptr 4 0 0 0),(13,.ptr 13 0 0 0),(10,itsA (leI m (rdI m l))),(14,iv (n:Int)),(66,.own 40)],[(4,.box [.nils,.nils,.nils,.nils] 75),(13,.box [yc (zh m l),yc (twos (prL m l).length),yc (leC m (rdI m l)),.any] 75),(40,.row tmE (((leI m (rdI m l)).take n).map (λx=>x.Dur)++[x.Dur]) 83 2)]⟩) (ym) ?_);refine yC.imp (zar rfl rfl rfl rfl TyK.h (by simp)) (ym)
   ·exact absurd U (by simp)
  refine gq ?_;refine yo (n+1) (hI:=yg)
 ·have hn:n=(leI m (rdI m l)).length:=by omega
  subst hn;have Z:rdV m l=⟨zh m l,twos (prL m l).length,leC m (rdI m l),((leI m (rdI m l)).take (leI m (rdI m l)).length).map (λx=>x.Dur)⟩:=by rw[x4,j9]
  apply kK;apply yf;refine kJ (st':=⟨[(4,.ptr 4 0 0 0),(13,.ptr 13 0 0 0)],[(4,.box [.nils,.nils,.nils,.nils] 75),(13,.box [yc (zh m l),yc (twos (prL m l).length),yc (leC m (rdI m l)),tmsA (((leI m (rdI m l)).take (leI m (rdI m l)).length).map (λx=>x.Dur))] 75)]⟩) ((k9 (k:=40) rfl).trans yd) ?_;refine gq ?_;refine yD ty75 ?_ ?_;all_goals(first|exact j6 (λz=>AV.agg (rdgE z)) Z.symm|exact j6 (λz=>AV.int .i64 z) hE.symm)
end
section
attribute [local irreducible] Pur yA yC Ex X Fn Imp LeV LeB FnO It yH FnW FnOW FnP FnD
attribute [local irreducible] rdE rdV
def zhU(m:Mn)(l:List Sg)(hl:l.length<=1000):Fn prog 30 [mnA m,sgsA l] (.tup [tmsA (rdV m l).Durs,iv (rdE m l)]):=by
 refine kC func30 ntmps30 (λg w d=>?_);refine gc (zmD m l hl) ?_;refine yh ?_ ?_;all_goals(first|(with_reducible rfl)|rfl)
def zc9(m:Mn)(l:List Sg)(hl:l.length<=1000):Fn prog 92 [mnA m,sgsA l] (.tup [tmsA (rdV m l).Durs,iv (rdE m l)]):=by
 refine kC func92 ntmps92 (λg w d=>?_);refine gc (zgl m l hl) ?_;refine yh ?_ ?_;all_goals(first|(with_reducible rfl)|rfl)
def zoC{m:Mn}{l:List Sg}:(rdV m l).Durs.length<=l.length:=by
 unfold rdV;split
 ·show((leI m (rdI m l)).map _).length<=_;rw[jO];exact jR (zk8 _ _) zk7
 ·simp
def zef(m:Mn)(l:List Sg)(D:List Tm)(hl:l.length<=1000):Fn prog 79 [mnA m,sgsA l,tmsA D] (.bool (decide (rdE m l=0)&&decide ((rdV m l).Durs=D))):=by
 have hr:=zoC (m:=m) (l:=l);refine kC func79 ntmps79 (λg w d=>?_);refine gq ?_;refine yM (zhU m l hl) ?_;iterate 5 refine ya ?_
 apply yG;iterate 2 refine ya ?_
 refine kG 2 ?_;refine gq ?_;refine kQ (zbH (rdV m l).Durs D (by omega)) ?_;refine ge ?_;all_goals exact zR
def zcE(m:Mn)(l:List Sg)(D:List Tm)(hl:l.length<=1000):Fn prog 82 [mnA m,sgsA l,tmsA D] (.bool (decide (rdE m l=0)&&decide ((rdV m l).Durs=D))):=by
 have hr:=zoC (m:=m) (l:=l);refine kC func82 ntmps82 (λg w d=>?_);refine gq ?_;refine yM (zc9 m l hl) ?_;iterate 2 refine ya ?_
 refine yq ?_;apply yf;apply ye;iterate 2 refine ya ?_
 refine kG 2 ?_;refine yn ?_;iterate 5 refine kF ?_
 refine gf ?_ ?_<;>intro Z
 ·have T:(decide (rdE m l=0)&&decide ((rdV m l).Durs=D))=false:=by
   rw[Bool.and_eq_false_iff];by_cases h0:rdE m l=0
   ·right;rw[jP];intro h;subst h;simp[h0]at Z
   ·left;exact jD h0
  refine gq ?_;all_goals rw[T]
 have I:rdE m l=0/\(rdV m l).Durs.length=D.length:=by
  by_cases h0:rdE m l=0
  ·exact⟨h0,by simp[h0]at Z;omega⟩
  ·simp[h0]at Z
 obtain⟨J,Q⟩:=I;apply yl;apply yf;apply ye;refine yi ?_;apply kA;refine zV (λk=>[(2,tmsA D),(7,tmsA (rdV m l).Durs),(9,iv (k:Int))]) (λk=>[]) (λk=>k<=(rdV m l).Durs.length/\(rdV m l).Durs.take k=D.take k) ((rdV m l).Durs.length) (λk H=>?_) (hJ:=by exact⟨by omega,by simp⟩) (h0:=yd);obtain⟨E,V⟩:=H;refine gd ?_ ?_<;>intro xT
 ·obtain⟨x,hx⟩:∃x,(rdV m l).Durs[k]? =some x:=⟨_,lgg (by omega)⟩;have x4:(rdV m l).Durs[(k:Int).toNat]? =some x:=by simpa using hx
  obtain⟨y,U⟩:∃y,D[k]? =some y:=⟨_,lgg (by omega)⟩;have x3:D[(k:Int).toNat]? =some y:=by simpa using U
  refine gq ?_;refine yQ [31,32,33,34,35,36,37,38,39] [0,0,3,7,0,0,48,112,255] mo ?_;iterate 9 refine yb ?_
  refine yx ?_;refine gd ?_ ?_<;>intro N
  ·have T:(decide (rdE m l=0)&&decide ((rdV m l).Durs=D))=false:=by
    rw[Bool.and_eq_false_iff];right;rw[jP];intro h;rw[←h,hx]at U;injection U with U;exact N U
   refine gq ?_;all_goals rw[T]
  refine gq ?_;refine yo (k+1) (hJ:=by exact⟨by omega,by rw[←zbi hx,←zbi U,V,N]⟩)
 ·have T:(decide (rdE m l=0)&&decide ((rdV m l).Durs=D))=true:=by
   have h1:k=(rdV m l).Durs.length:=by omega
   rw[vU];refine⟨jH J,?_⟩;rw[jT];subst h1;rw[j9,Q,j9]at V;exact V
  refine gq ?_;all_goals rw[T]
end
end Go.Rse
namespace Go.Rse
open Go Go.RowKit Go.Proofs.Tryz
def orI(p q:Int):Int:=IntKind.i64.wrap ((BitVec.ofInt 64 p|||BitVec.ofInt 64 q).toNat:Int)
section
variable{P:Program}{C:Ctx}{st:St}{ty:TypeId}{x y:Operand}{xt yt:TypeId}{p q:Int}
def zzz(hx:ev st x=some (.int .i64 p))(Z:ev st y=some (.int .i64 q)):Pur P C (.binOp .or xt x y yt) ty st (.int .i64 (orI p q)):=λg a w dst pos af gd hr=>
 ⟨_,zm5 hr hx Z dst pos af gd (.int .i64 (orI p q)) (by simp[binOp,Op.intBits];rfl),.int _ _⟩
end
end Go.Rse
namespace Go.Rse
open Go Go.Proofs Go.Proofs.Tryz
section
def ztc(r:List Sg)(k:Nat):rsL r=rsL (r.take k)++rsL (r.drop k):=by
 conv=>lhs;rw[←w5 k r]
 unfold rsL;rw[wR,xD]
def zwY{r:List Sg}{k:Nat}{s:Sg}(hs:r[k]? =some s)(Z:¬s.Kind=3):(rsL r)[(rsL (r.take k)).length]? =some (decide (s.Kind=2)):=by
 have h:=j1.1 hs;rw[ztc r k,wK (jE _),xV,jG h.1,h.2];unfold rsL;simp[Z]
def riJ(l:List Bt)(r:List Sg)(k:Nat):Prop:=rsL (r.take k)=(l.map (·.Rest)).take (rsL (r.take k)).length/\(rsL (r.take k)).length<=l.length
def zzA(l:List Bt)(r:List Sg):riJ l r 0:=by unfold riJ rsL;simp
def ztd{l:List Bt}{r:List Sg}{k:Nat}{s:Sg}(h:riJ l r k)(hs:r[k]? =some s)(Z:s.Kind=3):riJ l r (k+1):=by
 unfold riJ at*;rw[←zft hs Z];exact h
def zzB{l:List Bt}{r:List Sg}{k:Nat}{s:Sg}(h:riJ l r k)(hs:r[k]? =some s)(V:¬s.Kind=3)(Z:(rsL (r.take k)).length<l.length)(he:(decide (s.Kind=2)==(l.getD (rsL (r.take k)).length default).Rest)=true):riJ l r (k+1):=by
 unfold riJ at*
 have e:(l.map (·.Rest))[(rsL (r.take k)).length]? =some (decide (s.Kind=2)):=by
  rw[jJ,lgg Z];rw[j8,lgg Z]at he;have he:=eq_of_beq he;simp only[uQ]at he;rw[he];rfl
 rw[←zhD hs V,jI,show[decide (s.Kind=2)].length=1 from rfl,jA,e,←h.1];exact⟨rfl,by omega⟩
def zzC{l:List Bt}{r:List Sg}{k:Nat}{s:Sg}(hs:r[k]? =some s)(V:¬s.Kind=3)(h:(l.length:Int)<=((rsL (r.take k)).length:Int)\/(decide (s.Kind=2)==(l.getD (((rsL (r.take k)).length:Nat):Int).toNat default).Rest)=false):¬l.map (·.Rest)=rsL r:=λe=>by
 have Z:=zwY hs V;rw[←e,jJ]at Z;cases hl:l[(rsL (r.take k)).length]? with
 |none=>rw[hl]at Z;cases Z
 |some b=>
  rw[hl]at Z;injection Z with Z;have U:=(j1.1 hl).1;rcases h with h|h
  ·omega
  ·rw[wC,j8,hl,uQ,←Z]at h;simp at h
def zwZ{l:List Bt}{r:List Sg}(h:riJ l r r.length):decide (((rsL r).length:Int)=(l.length:Int))=decide (l.map (·.Rest)=rsL r):=by
 unfold riJ at h;rw[j9]at h;refine decide_eq_decide.2 ⟨λe=>?_,λe=>?_⟩
 ·rw[h.1,show(rsL r).length=(l.map (·.Rest)).length by rw[jO];omega,j9]
 ·rw[←e,jO]
def lsQ(a b:Int):Bool:=!decide (a=b)&&decide (orI a b=b)
attribute [local irreducible] Pur yA yC Ex X Fn Imp LeV LeB FnO It yH FnW FnOW FnP FnD
attribute [local irreducible] wcE ckD durB rdE rdV rsL wisE wisB riJ orI
set_option maxHeartbeats 2000000 in
def zhA(m:Mn)(l:List Bt)(r:List Sg)(hl:l.length<=4000000000)(hr:r.length<=1000):Fn prog 21 [mnA m,btsA l,sgsA r] (.tup [.bool (wisB m l r),iv (wisE m l r)]):=by
 have xT:(0:Int)=((rsL (r.take 0)).length:Int):=by unfold rsL;rfl
 refine kC func21 ntmps21 (λg w d=>?_);refine gc (za8 m l (by omega)) ?_;refine gd ?_ ?_<;>intro Z
 ·have hE:=(zxa (r:=r) Z).1;have Q:=(zxa (r:=r) Z).2;refine gq ?_;refine yh ?_ ?_;all_goals(first|exact zE Q|exact zE hE)
 refine gc (zH m r (by omega)) ?_;refine gd ?_ ?_<;>intro T
 ·have hE:=(ztt Z T).1;have Q:=(ztt Z T).2;refine gq ?_;refine yh ?_ ?_;all_goals(first|exact zE Q|exact zE hE)
 have hE:=(ztu Z T).1;have Q:=(ztu Z T).2;apply yl;apply ye;refine yi ?_;apply yf;apply ye;refine yi ?_;apply kA;refine zV (λk=>[(1,btsA l),(2,sgsA r),(3,.ptr 3 0 0 0),(6,.bool false),(7,iv 0),(9,iv ((rsL (r.take k)).length:Int)),(10,iv (k:Int))]) (λk=>[(3,.box (mnE m) 23)]) (λk=>k<=r.length/\riJ l r k) r.length (λk hk=>?_) (hJ:=by exact⟨wH _,zzA l r⟩);obtain⟨k1,k2⟩:=hk;refine gd ?_ ?_<;>intro x4
 ·obtain⟨s,hs⟩:∃s,r[k]? =some s:=⟨_,lgg (by omega)⟩;have x3:r[(k:Int).toNat]? =some s:=by simpa using hs
  have x2:=zg9 (r.take k);have E:(r.take k).length<=1000:=by rw[jL];omega
  refine gd ?_ ?_<;>intro V
  ·have U:=ztd k2 hs V;have I:((rsL (r.take k)).length:Int)=((rsL (r.take (k+1))).length:Int):=by rw[zft hs V]
   refine gq ?_;refine yo (k+1) (hJ:=by exact⟨by omega,U⟩) (hI:=yg)
  refine gq ?_;refine yQ [35,36,37,38,39,40,41,42,43,44,45,46,47,48,49,50,51,52] [0,0,2,7,15,31,31,127,255,511,1023,31,31,6175,14367,30751,65535,131071] mo ?_;iterate 5 refine yb ?_
  iterate 12 refine kM ?_
  refine yb ?_;refine yx ?_;refine gd ?_ ?_<;>intro N
  ·have H:=zzC hs V N;refine gq ?_;refine yh ?_ ?_;all_goals(first|exact zE hE|(rw[Q,jD H];rfl))
  have U:=zzB k2 hs V (by omega) (by have:=N.2;rw[wC]at this;exact this);have I:((rsL (r.take k)).length:Int)+1=((rsL (r.take (k+1))).length:Int):=by rw[←zhD hs V,jI];rfl
  refine gq ?_;refine yo (k+1) (hJ:=by exact⟨by omega,U⟩) (hI:=yg)
 ·obtain rfl:k=r.length:=by omega
  have J:=zwZ k2;refine gq ?_;refine yQ [6,7,55,56,57,58,59,60,61,62,63,64,65] [0,0,2,7,15,31,31,31,159,511,1023,2047,4095] mo ?_;iterate 5 refine yb ?_
  iterate 3 refine kM ?_
  refine kX (zbw l hl) ?_;refine kX (zcE m r (durB l) hr) ?_;iterate 3 refine yb ?_
  refine yx ?_;refine gq ?_;refine yh ?_ ?_;all_goals(first|exact zE hE|(rw[Q,←J,j9];rfl))
def zgm(a b:Int):Fn prog 66 [iv a,iv b] (.bool (lsQ a b)):=by
 refine kC func66 ntmps66 (λg w d=>?_);apply ye;refine ya ?_;apply yG;iterate 3 refine ya ?_
 refine kG 3 ?_;refine yn ?_;iterate 2 refine kF ?_
 refine kF (hs:=λZ=>zzz rfl rfl) ?_;iterate 2 refine kF ?_
 refine ge ?_;all_goals(unfold lsQ;rfl)
end
section
def hbN(n:Int):Hb:=⟨!decide (andI n 4=0),!decide (andI n 2=0),!decide (andI n 1=0)⟩
structure Wg where
 n:Int
 c:Int
 r:List Sg
instance:Inhabited Wg:=⟨⟨0,0,[]⟩⟩
def wgE:Wg->List AV:=λx=>[iv x.n,iv x.c,sgsA x.r]
abbrev wgA(x:Wg):AV:=.agg (wgE x)
def coN(l:List Sg):Nat:=(l.filter (·.Color)).length
def zzD(l:List Sg):(0:Int)=((coN (l.take 0):Nat):Int):=by unfold coN;rfl
def zzE{l:List Sg}{k:Nat}{s:Sg}(h:l[k]? =some s)(Z:s.Color=true):((coN (l.take k):Nat):Int)+1=((coN (l.take (k+1)):Nat):Int):=by
 unfold coN;rw[jA,h];simp[Z]
def zzF{l:List Sg}{k:Nat}{s:Sg}(h:l[k]? =some s)(Z:¬s.Color=true):coN (l.take k)=coN (l.take (k+1)):=by
 unfold coN;rw[jA,h];simp[Z]
def zw0(l:List Sg)(k:Nat):coN (l.take k)<=l.length:=by
 unfold coN;have:=wF (·.Color) (l.take k);rw[jL]at this;omega
def wgV(r:List Sg):Wg:=⟨(r.length:Int),((coN r:Nat):Int),r⟩
def zbV(D:List Tm)(R:List Bool):List Bt:=List.zipWith Bt.mk D R
def zvj(D:List Tm):[]=zbV D []:=by unfold zbV;simp
def zq9:∀{R:List Bool}{D:List Tm}{t:Tm}{r:Bool},D[R.length]? =some t->zbV D R++[⟨t,r⟩]=zbV D (R++[r])
 |[],D,t,r,h=>by
  cases D with
  |nil=>simp at h
  |cons x D=>simp at h;subst h;simp[zbV]
 |y::R,D,t,r,h=>by
  cases D with
  |nil=>simp at h
  |cons x D=>
   have:=zq9 (R:=R) (D:=D) (t:=t) (r:=r) (by simpa using h);unfold zbV at*
   simp only[List.zipWith_cons_cons,uA,this]
def zoD(D:List Tm)(R:List Bool)(h:R.length<=D.length):(zbV D R).length=R.length:=by unfold zbV;rw[List.length_zipWith];omega
def zra(l:List Sg)(k:Nat):(rsL (l.take k)).length<=(rsL l).length:=by
 have:l.take k++l.drop k=l:=w5 k l;rw[←this];unfold rsL;simp[w5];have Z:(l.filter λs=>!decide (s.Kind=3))=((l.take k).filter λs=>!decide (s.Kind=3))++((l.drop k).filter λs=>!decide (s.Kind=3)):=by rw[←wR,w5]
 rw[Z,jI];omega
def zrb{m:Mn}:∀(L:List Int)(l:List Ite)(C:List Int),(lvF m L l C).2.2=0->(lvF m L l C).2.1.length=l.length
 |[],l,C,_=>rfl
 |k::r,l,C,h0=>by
  unfold lvF at h0⊢;split at h0
  ·rename_i h;rw[j4 h];have:=zrb (m:=m) r (apV m k l (cuV m k l)) (C++cuV m k l) h0;rw[zlh (zms h)]at this;exact this
  ·rename_i h;exact absurd h0 h
def zw1{m:Mn}{l:List Ite}(h:leE m l=0):(leI m l).length=l.length:=by
 unfold leI;rw[j4 h];unfold leE at h;split at h
 ·split at h
  ·exact zrb _ _ _ h
  ·rename_i Z;exact absurd h Z
 ·rename_i Z;exact absurd h Z
def zls(l:List Sg):∀k,ntN l k=(rsL (l.take k)).length
 |0=>by unfold rsL;rfl
 |k+1=>by
  unfold ntN;cases h:l[k]? with
  |none=>
   have V:=List.getElem?_eq_none_iff.1 h;rw[wI (by omega:l.length<=k+1),zls l k,wI V]
  |some s=>
   by_cases Z:s.Kind=3
   ·show(if s.Kind=3 then ntN l k else ntN l k+1)=_;rw[j4 Z,zls l k,zft h Z]
   ·show(if s.Kind=3 then ntN l k else ntN l k+1)=_;rw[j3 Z,zls l k,←zhD h Z,jI];rfl
def zrc{m:Mn}{l:List Sg}(h:rdE m l=0):(rdV m l).Durs.length=(rsL l).length:=by
 have Z:ckD m l=0:=by
  apply jZ;intro V;unfold rdE at h;rw[j3 V]at h;exact V h
 have he:leE m (rdI m l)=0:=by unfold rdE at h;rw[j4 Z]at h;exact h
 unfold rdV;rw[j4 h];show((leI m (rdI m l)).map _).length=_;rw[jO,zw1 he];unfold rdI;rw[znf (zqf Z),ziQ,zls,j9]
def bsV(m:Mn)(l:List Sg):List Bt:=if rdE m l=0 then zbV (rdV m l).Durs (rsL l)else[]
attribute [local irreducible] Pur yA yC Ex X Fn Imp LeV LeB FnO It yH FnW FnOW FnP FnD
attribute [local irreducible] wcE btF ckT ckM ckD frV wcnE wcnV cnP chV durB rdE rdV rsL wisE wisB coN zbV andI
def zaL(n:Int):Fn prog 64 [iv n] (hbA (hbN n)):=by
 refine kC func64 ntmps64 (λg w d=>?_);apply ye;refine zb ?_;apply yG;refine ya ?_;refine ya (hs:=zjV rfl rfl) ?_;iterate 2 refine ya ?_
 refine ya (hs:=zjV rfl rfl) ?_;iterate 2 refine ya ?_
 refine ya (hs:=zjV rfl rfl) ?_;refine gq ?_;refine kH (.one (.cellA rfl rfl rfl rfl ty32 (kB ?_)));all_goals exact zR
def zid(l:List Bt)(hl:l.length<=4000000000):Fn prog 116 [btsA l] (tmsA (durB l)):=by
 have V:[]=durB (l.take 0):=by unfold durB;rfl
 refine kC func116 ntmps116 (λg w d=>?_);apply ye;refine ya ?_;apply yG;refine yi ?_;iterate 2 apply yf
 refine kJ (yE tmE 83 2 3 30 rfl rfl) ?_;apply yj;refine yq ?_;apply kA;refine ze (λk=>[(6,btsA l),(7,iv (l.length:Int)),(8,iv (k:Int)),(3,.own 30)]) (λk=>[(30,.row tmE (durB (l.take k)) 83 2)]) l.length (λk I=>?_);refine gd ?_ ?_<;>intro U
 ·obtain⟨b,Z⟩:∃b,l[k]? =some b:=⟨_,lgg (by omega)⟩;have T:l[(k:Int).toNat]? =some b:=by simpa using Z
  have Q:=znE Z;have N:(durB (l.take k)).length<=l.length:=by rw[zjq,jL];omega
  refine gq ?_;refine yz tmE [b.Dur] ?_;refine gq ?_;refine yo (k+1) (hI:=yg)
 ·obtain rfl:k=l.length:=by omega
  have J:durB (l.take l.length)=durB l:=by rw[j9]
  apply kK;apply ye;refine yL ?_;refine kE ?_;refine k8 (k9 (k:=30) rfl) ?_;refine gq ?_;all_goals(exact j6 (λz=>tmsA z) J)
set_option maxHeartbeats 1000000 in
def zhB(l:List Sg)(hl:l.length<=4000000000):Fn prog 95 [sgsA l] (wgA (wgV l)):=by
 have U:[iv (l.length:Int),iv 0,sgsA l]=[iv (l.length:Int),iv ((coN (l.take 0):Nat):Int),sgsA l]:=by rw[←zzD l]
 refine kC func95 ntmps95 (λg w d=>?_);apply ye;refine zb ?_;apply yG;iterate 4 refine ya ?_
 refine zb ?_;refine kI ?_;apply kL;apply yf;apply ye;refine yq ?_;apply kA;refine kJ (st':=⟨[(2,.ptr 2 0 0 0),(3,.ptr 3 0 0 0),(10,sgsA l),(11,iv (l.length:Int)),(12,iv 0)],[(2,.box [iv 0,iv 0,.nils] 125),(3,.box [iv (l.length:Int),iv 0,sgsA l] 125)]⟩) yg ?_;refine ze (λk=>[(2,.ptr 2 0 0 0),(3,.ptr 3 0 0 0),(10,sgsA l),(11,iv (l.length:Int)),(12,iv (k:Int))]) (λk=>[(2,.box [iv 0,iv 0,.nils] 125),(3,.box [iv (l.length:Int),iv ((coN (l.take k):Nat):Int),sgsA l] 125)]) l.length (λk I=>?_);refine gd ?_ ?_<;>intro T
 ·obtain⟨s,hs⟩:∃s,l[k]? =some s:=⟨_,lgg (by omega)⟩;have Q:l[(k:Int).toNat]? =some s:=by simpa using hs
  have N:=zw0 l k;refine gd ?_ ?_<;>intro Z
  ·have V:[iv (l.length:Int),iv (((coN (l.take k):Nat):Int)+1),sgsA l]=[iv (l.length:Int),iv ((coN (l.take (k+1)):Nat):Int),sgsA l]:=by rw[←zzE hs Z]
   refine gq ?_;refine yo (k+1) (hI:=yg)
  ·have V:[iv (l.length:Int),iv ((coN (l.take k):Nat):Int),sgsA l]=[iv (l.length:Int),iv ((coN (l.take (k+1)):Nat):Int),sgsA l]:=by rw[zzF hs (by simpa using Z)]
   refine gq ?_;refine yo (k+1) (hI:=yg)
 ·obtain rfl:k=l.length:=by omega
  have J:coN (l.take l.length)=coN l:=by rw[j9]
  refine gq ?_;refine kH (.one (.cellA rfl rfl rfl rfl zsc (kB ?_)));all_goals(first|(unfold wgV;rw[←J];rfl)|rfl)
def zbO(a b:List Bt)(hl:a.length<=4000000000):Fn prog 101 [btsA a,btsA b] (.bool (decide (a=b))):=by
 refine kC func101 ntmps101 (λg w d=>?_);refine gd ?_ ?_<;>intro N
 ·have U:decide (a=b)=false:=by rw[jP];intro h;subst h;exact N rfl
  refine gq ?_;all_goals rw[U]
 have T:a.length=b.length:=by omega
 apply yl;apply yf;apply ye;refine yq ?_;apply kA;refine zV (λk=>[(0,btsA a),(1,btsA b),(12,iv a.length),(13,iv (k:Int))]) (λk=>[]) (λk=>k<=a.length/\a.take k=b.take k) a.length (λk J=>?_) (hJ:=by exact⟨by omega,by simp⟩) (h0:=yd);obtain⟨I,Z⟩:=J;refine gd ?_ ?_<;>intro H
 ·obtain⟨x,hx⟩:∃x,a[k]? =some x:=⟨_,lgg (by omega)⟩;have E:a[(k:Int).toNat]? =some x:=by simpa using hx
  obtain⟨y,V⟩:∃y,b[k]? =some y:=⟨_,lgg (by omega)⟩;have xT:b[(k:Int).toNat]? =some y:=by simpa using V
  refine gq ?_;refine yQ [16,17,18,19,20,21,22,23,24] [0,0,3,7,0,0,48,112,255] mo ?_;iterate 8 refine yb ?_
  refine yb ?_ (hs:=by exact zbd (ziu _ _) inferInstance TyK.h rfl rfl rfl rfl rfl);refine yx ?_;refine gd ?_ ?_<;>intro Q
  ·have U:decide (a=b)=false:=by rw[jP];intro h;subst h;rw[hx]at V;injection V with V;exact Q V
   refine gq ?_;all_goals rw[U]
  refine gq ?_;refine yo (k+1) (hJ:=by exact⟨by omega,by rw[←zbi hx,←zbi V,Z,Q]⟩)
 ·have U:decide (a=b)=true:=by
   have h1:k=a.length:=by omega
   rw[jT];subst h1;rw[j9,T,j9]at Z;exact Z
  refine gq ?_;all_goals rw[U]
set_option maxHeartbeats 1000000 in
def zaZ(m:Mn)(l:List Sg)(hl:l.length<=1000):Fn prog 41 [mnA m,sgsA l] (.tup [btsA (bsV m l),iv (rdE m l)]):=by
 have H:[]=zbV (rdV m l).Durs (rsL (l.take 0)):=by unfold rsL;exact zvj _
 refine kC func41 ntmps41 (λg w d=>?_);refine gc (zhU m l hl) ?_;refine gd ?_ ?_<;>intro T
 ·have U:bsV m l=[]:=by unfold bsV;rw[j3 T]
  apply ye;refine yq ?_;refine kE ?_;refine k8 (yd (ts:=[(4,btsA []),(5,iv (rdE m l))]) (hs:=[])) ?_;refine yh ?_ ?_;all_goals(first|exact zE U|exact j6 (λz=>btsA z) U|exact j6 (AV.int .i64) h0.symm|rfl)
 have h0:rdE m l=0:=by omega
 have Q:bsV m l=zbV (rdV m l).Durs (rsL l):=by unfold bsV;rw[j4 h0]
 have E:=zrc h0;apply yl;apply ye;refine yi ?_;iterate 2 apply yf
 refine kJ (yE btE 100 3 8 30 rfl rfl) ?_;apply yj;refine yq ?_;apply kA;refine ze (λk=>[(2,.ptr 2 0 0 0),(6,tmsA (rdV m l).Durs),(8,.own 30),(20,sgsA l),(21,iv (l.length:Int)),(22,iv (k:Int))]) (λk=>[(2,.box (mnE m) 23),(30,.row btE (zbV (rdV m l).Durs (rsL (l.take k))) 100 3)]) l.length (λk hk=>?_);refine gd ?_ ?_<;>intro xT
 ·obtain⟨s,hs⟩:∃s,l[k]? =some s:=⟨_,lgg (by omega)⟩;have x4:l[(k:Int).toNat]? =some s:=by simpa using hs
  refine gd ?_ ?_<;>intro N
  ·have Z:=zhD hs (by simpa using N);have V:=zra l (k+1);rw[←Z,jI]at V;have J:=zoD (rdV m l).Durs (rsL (l.take k)) (by simp at V;omega);obtain⟨t,ht⟩:∃t,(rdV m l).Durs[(rsL (l.take k)).length]? =some t:=⟨_,lgg (by simp at V;omega)⟩;have I:=zq9 (r:=decide (s.Kind=2)) ht;rw[Z]at I;have x3:(rdV m l).Durs[(((zbV (rdV m l).Durs (rsL (l.take k))).length:Nat):Int).toNat]? =some t:=by rw[J];simpa using ht
   have x2:(rsL (l.take k)).length<=1000:=jR (zg9 _) (by rw[jL];omega);refine yQ [29,30,31,32,33,34,35,36,37,38,39] [0,0,0,4,14,30,0,64,192,510,1022,2047,4095] mo ?_;(iterate 10 refine yb ?_);refine ChM.step rfl rfl rfl (zD (k:=39) (enc:=btE) (l:=[⟨t,decide (s.Kind=2)⟩]) sl24 zf5 zjZ (by decide) rfl rfl rfl rfl (by decide) (by decide) (λ_=>rfl) rfl) rfl ?_;refine yx ?_;refine gq ?_;refine yo (k+1) (hI:=yg)
  ·have Z:=j6 (zbV (rdV m l).Durs) (zft hs (by omega));refine gq ?_;refine yo (k+1) (hI:=yg)
 ·obtain rfl:k=l.length:=by omega
  have U:zbV (rdV m l).Durs (rsL (l.take l.length))=bsV m l:=by rw[j9,Q]
  apply kK;apply ye;refine yq ?_;refine kE ?_;refine k8 (k9 (k:=30) rfl) ?_;refine yh ?_ ?_;all_goals(first|exact zE U|exact j6 (λz=>btsA z) U|exact j6 (AV.int .i64) h0.symm|rfl)
end
end Go.Rse
