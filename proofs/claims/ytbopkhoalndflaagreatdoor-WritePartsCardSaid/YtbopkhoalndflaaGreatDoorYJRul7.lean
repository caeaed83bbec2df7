/-
  Walks.
-/
import Derived.Test.YtbopkhoalndflaaGreatDoorYJRul5
import Derived.Test.YtbopkhoalndflaaGreatDoorYJWri1
set_option linter.all false
namespace Go.Rse
open Go Go.Proofs Go.Proofs.Tryz
section
attribute [local irreducible] Pur yA yC Ex X Fn Imp LeV LeB FnO It yH FnW FnOW FnP FnD
attribute [local irreducible] leE leC leI rdI rdE rdV ckD zl twos prL itmV itmE
set_option maxHeartbeats 4000000 in
def zl7(m:Mn)(l:List Sg)(hl:l.length<=1000):Fn prog 93 [mnA m,sgsA l] (.tup [rdgA (rdV m l),iv (rdE m l)]):=by
 have hR:=zlM m l hl;have xT:=zkx (m:=m) (l:=l);have x4:=zky m (rdI m l);have V:(twos (prL m l).length).length<=1000:=by rw[zcK];have:=ze8 m l;omega
 have x3:(zl m l).length<=4000000:=by have:=zis m l;have:=zgg m l;omega
 refine kF func93 ntmps93 (λg w d=>?_);refine gc (zb5 m l hl) ?_;refine gd ?_ ?_<;>intro U
 ·have T:=zxx U;obtain⟨hE,Z⟩:=T;apply ye;iterate 2 refine ya ?_
  refine kK ?_;refine yh ?_;refine kE ?_;refine kA (kY (ts:=[(4,.ptr 4 0 0 0),(5,iv (ckD m l))]) (hs:=[(4,.box [yc [],yc [],yc [],tmsA []] 75)]) ⟨⟨_,rfl,kH _⟩,⟨_,rfl,kH _⟩,True.intro⟩ ⟨⟨_,rfl,bC (.cons (kP _) (.cons (kP _) (.cons (kP _) (.cons (kP _) .nil))))⟩,True.intro⟩) ?_;refine yr ty75 ?_ ?_;all_goals(first|exact j5 (λz=>AV.agg (rdgE z)) Z.symm|exact j5 (λz=>AV.int .i64 z) hE.symm)
 have h0:ckD m l=0:=by omega
 rw[j3 h0,h0]at hR;have Q:=zpI h0
 have hI:Fn prog 138 [mnA m,sgsA l,yc (zl m l),yc (twos (prL m l).length)] (.tup [itsA (rdI m l),iv 0]):=by
  have h:=zkw m l (zl m l) (twos (prL m l).length) hl V;rw[Q]at h;unfold rdI;exact h
 refine gc hR ?_;refine gd ?_ ?_<;>intro N
 ·exact absurd rfl N
 refine gc hI ?_;refine gd ?_ ?_<;>intro J
 ·exact absurd rfl J
 refine gc (zjv m (rdI m l) (by omega)) ?_;refine gd ?_ ?_<;>intro I
 ·have H:=zxy h0 I;obtain⟨hE,Z⟩:=H;apply ye;iterate 2 refine ya ?_
  refine kK ?_;refine yh ?_;refine kE ?_;refine kA (kY (ts:=[(4,.ptr 4 0 0 0),(5,iv (leE m (rdI m l)))]) (hs:=[(4,.box [yc [],yc [],yc [],tmsA []] 75)]) ⟨⟨_,rfl,kH _⟩,⟨_,rfl,kH _⟩,True.intro⟩ ⟨⟨_,rfl,bC (.cons (kP _) (.cons (kP _) (.cons (kP _) (.cons (kP _) .nil))))⟩,True.intro⟩) ?_;refine yr ty75 ?_ ?_;all_goals(first|exact j5 (λz=>AV.agg (rdgE z)) Z.symm|exact j5 (λz=>AV.int .i64 z) hE.symm)
 have h2:leE m (rdI m l)=0:=by omega
 have G:=zxz h0 h2;obtain⟨hE,E⟩:=G;have x2:[]=((leI m (rdI m l)).take 0).map (λx=>x.Dur):=by simp
 apply yk;apply ye;iterate 4 refine ya ?_
 refine zk ?_;refine kK ?_;apply kQ;iterate 2 apply yf
 refine kJ (st':=⟨[(4,.ptr 4 0 0 0),(10,itsA (leI m (rdI m l))),(12,.ptr 12 0 0 0)],[(4,.box [.nils,.nils,.nils,.nils] 75),(12,.box [yc (zl m l),yc (twos (prL m l).length),yc (leC m (rdI m l)),.own 40] 75),(40,.row tmE [] 83 2)]⟩) ((zc9 tmE 83 2 12 40 3 75 _ [yc (zl m l),yc (twos (prL m l).length),yc (leC m (rdI m l)),.own 40] rfl rfl rfl rfl).trans yd) ?_;apply yj;refine yE ?_;apply kB;refine zu (λn=>[(4,.ptr 4 0 0 0),(12,.ptr 12 0 0 0),(60,itsA (leI m (rdI m l))),(61,iv (leI m (rdI m l)).length),(62,iv (n:Int))]) (λn=>[(4,.box [.nils,.nils,.nils,.nils] 75),(12,.box [yc (zl m l),yc (twos (prL m l).length),yc (leC m (rdI m l)),.own 40] 75),(40,.row tmE (((leI m (rdI m l)).take n).map (λx=>x.Dur)) 83 2)]) ((leI m (rdI m l)).length) (λn hk=>?_);refine gd ?_ ?_<;>intro x1
 ·obtain⟨x,hx⟩:∃x,(leI m (rdI m l))[n]? =some x:=⟨_,lgg (by omega)⟩;have x0:(leI m (rdI m l))[(n:Int).toNat]? =some x:=by simpa using hx
  have w2:=zpJ hx;have v9:(((leI m (rdI m l)).take n).map (λx=>x.Dur)).length<=1000:=by rw[jX,jM];omega
  refine gq ?_;refine yD tmE [⟨_,_⟩] ?_;refine gq ?_;refine yz (n+1) (hI:=yi)
 ·have hn:n=(leI m (rdI m l)).length:=by omega
  subst hn;have Z:rdV m l=⟨zl m l,twos (prL m l).length,leC m (rdI m l),((leI m (rdI m l)).take (leI m (rdI m l)).length).map (λx=>x.Dur)⟩:=by rw[E,jH]
  apply kO;apply yf;refine kJ (st':=⟨[(4,.ptr 4 0 0 0),(12,.ptr 12 0 0 0)],[(4,.box [.nils,.nils,.nils,.nils] 75),(12,.box [yc (zl m l),yc (twos (prL m l).length),yc (leC m (rdI m l)),tmsA (((leI m (rdI m l)).take (leI m (rdI m l)).length).map (λx=>x.Dur))] 75)]⟩) ((k9 (k:=40) rfl).trans yd) ?_;refine gq ?_;refine yr ty75 ?_ ?_;all_goals(first|exact j5 (λz=>AV.agg (rdgE z)) Z.symm|exact j5 (λz=>AV.int .i64 z) hE.symm)
set_option maxHeartbeats 4000000 in
def zfZ(m:Mn)(l:List Sg)(hl:l.length<=1000):Fn prog 136 [mnA m,sgsA l] (.tup [rdgA (rdV m l),iv (rdE m l)]):=by
 have hR:=zfP m l hl;have x4:=zkx (m:=m) (l:=l);have x3:=zky m (rdI m l);have T:(twos (prL m l).length).length<=1000:=by rw[zcK];have:=ze8 m l;omega
 have Q:(zl m l).length<=4000000:=by have:=zis m l;have:=zgg m l;omega
 refine kF func136 ntmps136 (λg w d=>?_);refine gc (zb8 m l hl) ?_;refine gd ?_ ?_<;>intro N
 ·have J:=zxx N;obtain⟨hE,Z⟩:=J;apply ye;iterate 2 refine ya ?_
  refine kK ?_;refine yh ?_;refine kE ?_;refine kA (kY (ts:=[(4,.ptr 4 0 0 0),(5,iv (ckD m l))]) (hs:=[(4,.box [yc [],yc [],yc [],tmsA []] 75)]) ⟨⟨_,rfl,kH _⟩,⟨_,rfl,kH _⟩,True.intro⟩ ⟨⟨_,rfl,bC (.cons (kP _) (.cons (kP _) (.cons (kP _) (.cons (kP _) .nil))))⟩,True.intro⟩) ?_;refine yr ty75 ?_ ?_;all_goals(first|exact j5 (λz=>AV.agg (rdgE z)) Z.symm|exact j5 (λz=>AV.int .i64 z) hE.symm)
 have h0:ckD m l=0:=by omega
 rw[j3 h0,h0]at hR;have I:=zpI h0
 have hI:Fn prog 184 [mnA m,sgsA l,yc (zl m l),yc (twos (prL m l).length)] (.tup [itsA (rdI m l),iv 0]):=by
  have h:=zfm m l (zl m l) (twos (prL m l).length) hl Q T;rw[I]at h;unfold rdI;exact h
 refine gc hR ?_;refine gc hI ?_;refine gc (zeC m (rdI m l) (by omega)) ?_;refine gd ?_ ?_<;>intro H
 ·have G:=zxy h0 H;obtain⟨hE,Z⟩:=G;apply ye;iterate 2 refine ya ?_
  refine kK ?_;refine yh ?_;refine kE ?_;refine kA (kY (ts:=[(4,.ptr 4 0 0 0),(5,iv (leE m (rdI m l)))]) (hs:=[(4,.box [yc [],yc [],yc [],tmsA []] 75)]) ⟨⟨_,rfl,kH _⟩,⟨_,rfl,kH _⟩,True.intro⟩ ⟨⟨_,rfl,bC (.cons (kP _) (.cons (kP _) (.cons (kP _) (.cons (kP _) .nil))))⟩,True.intro⟩) ?_;refine yr ty75 ?_ ?_;all_goals(first|exact j5 (λz=>AV.agg (rdgE z)) Z.symm|exact j5 (λz=>AV.int .i64 z) hE.symm)
 have h2:leE m (rdI m l)=0:=by omega
 have E:=zxz h0 h2;obtain⟨hE,xT⟩:=E;have x2:[]=((leI m (rdI m l)).take 0).map (λx=>x.Dur):=by simp
 apply yk;apply ye;iterate 4 refine ya ?_
 refine zk ?_;refine kK ?_;apply kQ;iterate 2 apply yf
 refine kJ (st':=⟨[(4,.ptr 4 0 0 0),(10,itsA (leI m (rdI m l))),(13,.ptr 13 0 0 0)],[(4,.box [.nils,.nils,.nils,.nils] 75),(13,.box [yc (zl m l),yc (twos (prL m l).length),yc (leC m (rdI m l)),.own 40] 75),(40,.row tmE [] 83 2)]⟩) ((zc9 tmE 83 2 13 40 3 75 _ [yc (zl m l),yc (twos (prL m l).length),yc (leC m (rdI m l)),.own 40] rfl rfl rfl rfl).trans yd) ?_;apply yj;refine yh ?_;apply kB;refine zu (λn=>[(4,.ptr 4 0 0 0),(13,.ptr 13 0 0 0),(10,itsA (leI m (rdI m l))),(14,iv (n:Int))]) (λn=>[(4,.box [.nils,.nils,.nils,.nils] 75),(13,.box [yc (zl m l),yc (twos (prL m l).length),yc (leC m (rdI m l)),.own 40] 75),(40,.row tmE (((leI m (rdI m l)).take n).map (λx=>x.Dur)) 83 2)]) ((leI m (rdI m l)).length) (λn hk=>?_);refine gd ?_ ?_<;>intro x1
 ·obtain⟨x,hx⟩:∃x,(leI m (rdI m l))[n]? =some x:=⟨_,lgg (by omega)⟩;have V:(leI m (rdI m l))[(n:Int).toNat]? =some x:=by simpa using hx
  have x0:=zpJ hx;have w2:(((leI m (rdI m l)).take n).map (λx=>x.Dur)).length<=1000:=by rw[jX,jM];omega
  refine gq ?_;refine kW [⟨0,58,.ptr 13 0 0 (0+3),[]⟩,⟨2,60,itsA (leI m (rdI m l)),[]⟩,⟨3,61,iv (n:Int),[]⟩,⟨4,62,.ept itE x 0,[3,2]⟩,⟨5,63,.ept itE x (0+6),[3,2,4]⟩,⟨6,64,tmA x.Dur,[3,2,4,5]⟩,⟨7,65,tmsA [x.Dur],[3,2,4,5,6]⟩,⟨9,67,.ptr 13 0 0 (0+3),[8,7,6,5,4,3,2,1,0]⟩] [(1,[0]),(8,[3,2,4,5,6,0,7,1]),(10,[7,6,5,4,3,2,1,0,8,9])] (λj=>match j with|0=>⟨[(4,.ptr 4 0 0 0),(13,.ptr 13 0 0 0),(10,itsA (leI m (rdI m l))),(14,iv (n:Int))],[(4,.box [.nils,.nils,.nils,.nils] 75),(13,.box [yc (zl m l),yc (twos (prL m l).length),yc (leC m (rdI m l)),.own 40] 75),(40,.row tmE (((leI m (rdI m l)).take n).map (λx=>x.Dur)) 83 2)]⟩|1=>⟨[(4,.ptr 4 0 0 0),(13,.ptr 13 0 0 0),(10,itsA (leI m (rdI m l))),(14,iv (n:Int)),(59,.own 40)],[(4,.box [.nils,.nils,.nils,.nils] 75),(13,.box [yc (zl m l),yc (twos (prL m l).length),yc (leC m (rdI m l)),.own 40] 75),(40,.row tmE (((leI m (rdI m l)).take n).map (λx=>x.Dur)) 83 2)]⟩|2=>⟨[(4,.ptr 4 0 0 0),(13,.ptr 13 0 0 0),(10,itsA (leI m (rdI m l))),(14,iv (n:Int)),(66,.own 40)],[(4,.box [.nils,.nils,.nils,.nils] 75),(13,.box [yc (zl m l),yc (twos (prL m l).length),yc (leC m (rdI m l)),.any] 75),(40,.row tmE (((leI m (rdI m l)).take n).map (λx=>x.Dur)++[x.Dur]) 83 2)]⟩|_=>⟨[(4,.ptr 4 0 0 0),(13,.ptr 13 0 0 0),(10,itsA (leI m (rdI m l))),(14,iv (n:Int))],[(4,.box [.nils,.nils,.nils,.nils] 75),(13,.box [yc (zl m l),yc (twos (prL m l).length),yc (leC m (rdI m l)),.own 40] 75),(40,.row tmE (((leI m (rdI m l)).take n).map (λx=>x.Dur)++[x.Dur]) 83 2)]⟩) mo (by kernel_rfl) (zg (yd)) (λj hj=>?_) (λj c U β hβ=>?_) ?_
  ·rcases j with _|_|_|_|j
   ·(iterate 3 refine⟨.inr ⟨_,rfl,rfl,rfl,rfl,k8 yJ⟩,?_⟩);refine⟨.inr ⟨_,rfl,rfl,rfl,rfl,k8 (zaj (enc:=itE) (l:=(leI m (rdI m l))) (u:=x) rfl rfl SlK.h TyK.h (λ_=>rfl) (by omega) V)⟩,?_⟩;(iterate 2 refine⟨.inr ⟨_,rfl,rfl,rfl,rfl,k8 yJ⟩,?_⟩);refine⟨.inr ⟨_,rfl,rfl,rfl,rfl,yu (enc:=tmE) (l:=[x.Dur]) sl50 ty83 ze83 (by decide) rfl rfl rfl rfl (by decide) (by decide) (λ_=>rfl) rfl⟩,?_⟩;exact yw
   ·refine⟨.inl rfl,?_⟩;(iterate 2 refine⟨.inr ⟨_,rfl,rfl,rfl,rfl,k8 yJ⟩,?_⟩);refine⟨.inr ⟨_,rfl,rfl,rfl,rfl,k8 (zaj (enc:=itE) (l:=(leI m (rdI m l))) (u:=x) rfl rfl SlK.h TyK.h (λ_=>rfl) (by omega) V)⟩,?_⟩;(iterate 2 refine⟨.inr ⟨_,rfl,rfl,rfl,rfl,k8 yJ⟩,?_⟩);refine⟨.inr ⟨_,rfl,rfl,rfl,rfl,yu (enc:=tmE) (l:=[x.Dur]) sl50 ty83 ze83 (by decide) rfl rfl rfl rfl (by decide) (by decide) (λ_=>rfl) rfl⟩,?_⟩;exact yw
   ·exact yw
   ·exact yw
   ·exact absurd (show j+4<=3 from hj) (by omega)
  ·rcases j with _|_|_|j
   ·obtain rfl:(1,[0])=c:=by injection U
    refine yo rfl (yn (st0:=⟨[(58,.ptr 13 0 0 (0+3)),(60,.ifb (β 2) (itsA (leI m (rdI m l)))),(61,.ifb (β 3) (iv (n:Int))),(62,.ifb (β 4) (.ept itE x 0)),(63,.ifb (β 5) (.ept itE x (0+6))),(64,.ifb (β 6) (tmA x.Dur)),(65,.ifb (β 7) (tmsA [x.Dur])),(67,.ifb (β 9) (.ptr 13 0 0 (0+3))),(4,.ptr 4 0 0 0),(13,.ptr 13 0 0 0),(10,itsA (leI m (rdI m l))),(14,iv (n:Int))],[(4,.box [.nils,.nils,.nils,.nils] 75),(13,.box [yc (zl m l),yc (twos (prL m l).length),yc (leC m (rdI m l)),.own 40] 75),(40,.row tmE (((leI m (rdI m l)).take n).map (λx=>x.Dur)) 83 2)]⟩) (yl) ?_);refine yC.imp (yK (k8 yJ) rfl rfl) (yl)
   ·obtain rfl:(8,[3,2,4,5,6,0,7,1])=c:=by injection U
    refine yo rfl (yn (st0:=⟨[(58,.ptr 13 0 0 (0+3)),(60,itsA (leI m (rdI m l))),(61,iv (n:Int)),(62,.ept itE x 0),(63,.ept itE x (0+6)),(64,tmA x.Dur),(65,tmsA [x.Dur]),(67,.ifb (β 9) (.ptr 13 0 0 (0+3))),(4,.ptr 4 0 0 0),(13,.ptr 13 0 0 0),(10,itsA (leI m (rdI m l))),(14,iv (n:Int)),(59,.own 40)],[(4,.box [.nils,.nils,.nils,.nils] 75),(13,.box [yc (zl m l),yc (twos (prL m l).length),yc (leC m (rdI m l)),.own 40] 75),(40,.row tmE (((leI m (rdI m l)).take n).map (λx=>x.Dur)) 83 2)]⟩) (yl) ?_);refine yC.imp (y6 (l2:=[x.Dur]) rfl rfl rfl sl50 ti83 (by decide) (by decide) (λ_=>rfl) (λ_=>rfl) (by simp only[wH,wK];omega) rfl) (yl)
   ·obtain rfl:(10,[7,6,5,4,3,2,1,0,8,9])=c:=by injection U
    refine yo rfl (yn (st0:=⟨[(58,.ptr 13 0 0 (0+3)),(60,itsA (leI m (rdI m l))),(61,iv (n:Int)),(62,.ept itE x 0),(63,.ept itE x (0+6)),(64,tmA x.Dur),(65,tmsA [x.Dur]),(67,.ptr 13 0 0 (0+3)),(4,.ptr 4 0 0 0),(13,.ptr 13 0 0 0),(10,itsA (leI m (rdI m l))),(14,iv (n:Int)),(66,.own 40)],[(4,.box [.nils,.nils,.nils,.nils] 75),(13,.box [yc (zl m l),yc (twos (prL m l).length),yc (leC m (rdI m l)),.any] 75),(40,.row tmE (((leI m (rdI m l)).take n).map (λx=>x.Dur)++[x.Dur]) 83 2)]⟩) (yl) ?_);refine yC.imp (z6 rfl rfl rfl rfl TyK.h (by simp)) (yl)
   ·exact absurd U (by simp)
  refine gq ?_;refine yz (n+1) (hI:=yi)
 ·have hn:n=(leI m (rdI m l)).length:=by omega
  subst hn;have Z:rdV m l=⟨zl m l,twos (prL m l).length,leC m (rdI m l),((leI m (rdI m l)).take (leI m (rdI m l)).length).map (λx=>x.Dur)⟩:=by rw[xT,jH]
  apply kO;apply yf;refine kJ (st':=⟨[(4,.ptr 4 0 0 0),(13,.ptr 13 0 0 0)],[(4,.box [.nils,.nils,.nils,.nils] 75),(13,.box [yc (zl m l),yc (twos (prL m l).length),yc (leC m (rdI m l)),tmsA (((leI m (rdI m l)).take (leI m (rdI m l)).length).map (λx=>x.Dur))] 75)]⟩) ((k9 (k:=40) rfl).trans yd) ?_;refine gq ?_;refine yr ty75 ?_ ?_;all_goals(first|exact j5 (λz=>AV.agg (rdgE z)) Z.symm|exact j5 (λz=>AV.int .i64 z) hE.symm)
end
section
attribute [local irreducible] Pur yA yC Ex X Fn Imp LeV LeB FnO It yH FnW FnOW FnP FnD
attribute [local irreducible] rdE rdV
def zhr(m:Mn)(l:List Sg)(hl:l.length<=1000):Fn prog 30 [mnA m,sgsA l] (.tup [tmsA (rdV m l).Durs,iv (rdE m l)]):=by
 refine kF func30 ntmps30 (λg w d=>?_);refine gc (zl7 m l hl) ?_;refine ym ?_ ?_;all_goals(first|(with_reducible rfl)|rfl)
def zcM(m:Mn)(l:List Sg)(hl:l.length<=1000):Fn prog 92 [mnA m,sgsA l] (.tup [tmsA (rdV m l).Durs,iv (rdE m l)]):=by
 refine kF func92 ntmps92 (λg w d=>?_);refine gc (zfZ m l hl) ?_;refine ym ?_ ?_;all_goals(first|(with_reducible rfl)|rfl)
def zn2{m:Mn}{l:List Sg}:(rdV m l).Durs.length<=l.length:=by
 unfold rdV;split
 ·show((leI m (rdI m l)).map _).length<=_;rw[jX];exact jQ (zky _ _) zkx
 ·simp
def zgD(m:Mn)(l:List Sg)(D:List Tm)(hl:l.length<=1000):Fn prog 79 [mnA m,sgsA l,tmsA D] (.bool (decide (rdE m l=0)&&decide ((rdV m l).Durs=D))):=by
 have hr:=zn2 (m:=m) (l:=l);refine kF func79 ntmps79 (λg w d=>?_);refine gq ?_;refine yP (zhr m l hl) ?_;iterate 5 refine ya ?_
 apply yG;iterate 2 refine ya ?_
 refine kI 2 ?_;refine gq ?_;refine bA (zby (rdV m l).Durs D (by omega)) ?_;refine ge ?_;all_goals exact zR
def zfs(m:Mn)(l:List Sg)(D:List Tm)(hl:l.length<=1000):Fn prog 82 [mnA m,sgsA l,tmsA D] (.bool (decide (rdE m l=0)&&decide ((rdV m l).Durs=D))):=by
 have hr:=zn2 (m:=m) (l:=l);refine kF func82 ntmps82 (λg w d=>?_);refine gq ?_;refine yP (zcM m l hl) ?_;iterate 2 refine ya ?_
 refine yE ?_;apply yf;apply ye;iterate 2 refine ya ?_
 refine kI 2 ?_;refine yp ?_;iterate 5 refine kG ?_
 refine gf ?_ ?_<;>intro Z
 ·have T:(decide (rdE m l=0)&&decide ((rdV m l).Durs=D))=false:=by
   rw[u7];by_cases h0:rdE m l=0
   ·right;rw[jR];intro h;subst h;simp[h0]at Z
   ·left;exact jC h0
  refine gq ?_;all_goals rw[T]
 have I:rdE m l=0/\(rdV m l).Durs.length=D.length:=by
  by_cases h0:rdE m l=0
  ·exact⟨h0,by simp[h0]at Z;omega⟩
  ·simp[h0]at Z
 obtain⟨J,Q⟩:=I;apply yk;apply yf;apply ye;refine yh ?_;apply kB;refine zM (λk=>[(2,tmsA D),(7,tmsA (rdV m l).Durs),(9,iv (k:Int))]) (λk=>[]) (λk=>k<=(rdV m l).Durs.length/\(rdV m l).Durs.take k=D.take k) ((rdV m l).Durs.length) (λk H=>?_) (hJ:=by exact⟨by omega,by simp⟩) (h0:=yd);obtain⟨G,V⟩:=H;refine gd ?_ ?_<;>intro E
 ·obtain⟨x,hx⟩:∃x,(rdV m l).Durs[k]? =some x:=⟨_,lgg (by omega)⟩;have xT:(rdV m l).Durs[(k:Int).toNat]? =some x:=by simpa using hx
  obtain⟨y,U⟩:∃y,D[k]? =some y:=⟨_,lgg (by omega)⟩;have x4:D[(k:Int).toNat]? =some y:=by simpa using U
  refine gq ?_;refine yW [31,32,33,34,35,36,37,38,39] [0,0,3,7,0,0,48,112,255] mo ?_;iterate 9 refine yb ?_
  refine yF ?_;refine gd ?_ ?_<;>intro N
  ·have T:(decide (rdE m l=0)&&decide ((rdV m l).Durs=D))=false:=by
    rw[u7];right;rw[jR];intro h;rw[←h,hx]at U;injection U with U;exact N U
   refine gq ?_;all_goals rw[T]
  refine gq ?_;refine yz (k+1) (hJ:=by exact⟨by omega,by rw[←zcB hx,←zcB U,V,N]⟩)
 ·have T:(decide (rdE m l=0)&&decide ((rdV m l).Durs=D))=true:=by
   have h1:k=(rdV m l).Durs.length:=by omega
   rw[vP];refine⟨jJ J,?_⟩;rw[jU];subst h1;rw[jH,Q,jH]at V;exact V
  refine gq ?_;all_goals rw[T]
end
section
def zwi{α:Type}{enc:α->List AV}(o:Option (List α)):(nlA enc o).nm=true:=by cases o<;>rfl
def zyx{m:Mn}{D:List Tm}{run:List Sg}(h:rdE m run=0/\(rdV m run).Durs=D):srV m D [] run=some run:=by
 unfold srV reQ;rw[j3 (by simp[h.1,h.2])]
def zyy{m:Mn}{D:List Tm}{run:List Sg}(h:¬(rdE m run=0/\(rdV m run).Durs=D)):srV m D [] run=none:=by
 unfold srV reQ;rw[j4];intro e;simp only[j7,w5]at e;exact h e
def zn3{m:Mn}{D:List Tm}{r:List (List (List Sg))}{run:List Sg}{F:List (List Sg)}(h:(F.take F.length).findSome? (λf=>srV m D r (run++f))=none):srV m D (F::r) run=none:=by
 rw[jH]at h;exact h
def zkQ{m:Mn}{D:List Tm}{C:List (List (List Sg))}{run:List Sg}(V:∀F∈C,F.length<=32/\∀f∈F,1<=f.length/\f.length<=2)(h:0<run.length+C.length):∀x,srV m D C run=some x->x≠[]:=λx hx e=>by
 have:=zhZ (n:=2) (λF U=>(V F U).2) hx;have Z:=this.1;rw[e]at Z;simp only[wK]at Z;omega
def zyz{m:Mn}{l:List Bt}{h:Hb}(c:¬wcnE m l h=0):wrE m l h=wcnE m l h/\wrV m l h=[]:=by
 unfold wrE wrV;rw[j4 c,j4 c];exact⟨rfl,rfl⟩
def zBu{m:Mn}{l:List Bt}{h:Hb}(c:wcnE m l h=0)(c2:l.length=0):wrE m l h=0/\wrV m l h=[]:=by
 have e:l=[]:=jN c2;unfold wrE wrV;rw[j3 c,j3 c,j3 e,j3 e];exact⟨rfl,rfl⟩
def zBv{m:Mn}{l:List Bt}{h:Hb}(c:wcnE m l h=0)(c2:¬l.length=0):wrE m l h=(if(srV m (durB l) (chV m l h) []).isSome then 0 else 18)/\wrV m l h=(srV m (durB l) (chV m l h) []).getD []:=by
 have e:¬l=[]:=λe=>c2 (by rw[e];rfl)
 unfold wrE wrV wrO;rw[j3 c,j3 c,j4 e,j4 e];exact⟨rfl,rfl⟩
def zkR(m:Mn)(l:List Bt)(h:Hb):∀F∈chV m l h,F.length<=32/\∀f∈F,1<=f.length/\f.length<=2:=λF Z=>⟨by
 unfold chV at Z;obtain⟨b,-,rfl⟩:=jW.1 Z;exact zgM m b h,zmd F Z⟩
def ziB{m:Mn}{l:List Bt}{h:Hb}(c:wcnE m l h=0):l.length<=12:=by
 unfold wcnE at c;split at c
 ·split at c
  ·exact absurd c (by decide)
  ·omega
 ·exact absurd c ‹_›
attribute [local irreducible] Pur yA yC Ex X Fn Imp LeV LeB FnO It yH FnW FnOW FnP FnD
attribute [local irreducible] wcE wcnE wcnV chV durB rdE rdV srV wrE wrV ckD rsL wisE wisB
set_option maxHeartbeats 1000000 in
def zmZ(m:Mn)(l:List Bt)(r:List Sg)(hl:l.length<=1000000)(hr:r.length<=1000):Fn prog 20 [mnA m,btsA l,sgsA r] (.tup [.bool (wisB m l r),iv (wisE m l r)]):=by
 have H:[]=rsL (r.take 0):=by unfold rsL;rfl
 refine kF func20 ntmps20 (λg w d=>?_);refine gc (zb4 m l (by omega)) ?_;refine gd ?_ ?_<;>intro V
 ·have U:=zBG (r:=r) V;obtain⟨hE,Z⟩:=U;refine gq ?_;refine ym ?_ ?_;all_goals(first|exact zE Z|exact zE hE)
 have h0:wcE m l=0:=by omega
 refine gc (zb5 m r hr) ?_;refine gd ?_ ?_<;>intro T
 ·have Q:=zBH h0 T;obtain⟨hE,Z⟩:=Q;refine gq ?_;refine ym ?_ ?_;all_goals(first|exact zE Z|exact zE hE)
 have N:=zBI h0 (show ckD m r=0 by omega);obtain⟨hE,Z⟩:=N;apply yk;apply ye;refine yh ?_;iterate 2 apply yf
 refine kJ (yI za7 4 1 10 30 rfl rfl) ?_;apply yj;refine yE ?_;apply kB;refine zu (λk=>[(1,btsA l),(2,sgsA r),(3,.ptr 3 0 0 0),(10,.own 30),(26,sgsA r),(27,iv (r.length:Int)),(28,iv (k:Int))]) (λk=>[(3,.box (mnE m) 23),(30,.row za7 (rsL (r.take k)) 4 1)]) r.length (λk hk=>?_);refine gd ?_ ?_<;>intro G
 ·obtain⟨s,hs⟩:∃s,r[k]? =some s:=⟨_,lgg (by omega)⟩;have E:r[(k:Int).toNat]? =some s:=by simpa using hs
  have xT:(rsL (r.take k)).length<=1000:=jQ (zlc _) (by rw[jM];omega);refine gd ?_ ?_<;>intro J
  ·have I:=zlb hs J;refine gq ?_;refine yD za7 [decide (s.Kind=2)] ?_;refine gq ?_;refine yz (k+1) (hI:=yi)
  ·have I:=zla hs (by omega);refine gq ?_;refine yz (k+1) (hI:=yi)
 ·obtain rfl:k=r.length:=by omega
  have x4:rsL (r.take r.length)=rsL r:=by rw[jH]
  apply kO;apply yf;refine kJ (st':=⟨[(1,btsA l),(2,sgsA r),(3,.ptr 3 0 0 0),(10,.own 30)],[(3,.box (mnE m) 23),(30,.row za7 (rsL r) 4 1)]⟩) yi ?_;refine kJ (st':=⟨[(1,btsA l),(2,sgsA r),(3,.ptr 3 0 0 0),(10,zaP (rsL r))],[(3,.box (mnE m) 23)]⟩) ((k9 (k:=30) rfl).trans yd) ?_;refine gc (zah l (rsL r) (by omega)) ?_;refine yW [6,7,45,46,47,48,49,50,51,52] [0,1,3,3,3,19,63,127,255,511] mo ?_;iterate 2 refine yb ?_
  iterate 3 refine kM ?_
  refine kZ (zdZ l (by omega)) ?_;refine kZ (zgD m r (durB l) hr) ?_;iterate 3 refine yb ?_
  refine yF ?_;refine gq ?_;refine ym ?_ ?_;all_goals(first|exact zE Z|exact zE hE)
set_option maxHeartbeats 2000000 in
def zcN(m:Mn)(D:List Tm)(n:Nat)(C:List (List (List Sg)))(run:List Sg)(hn:C.length=n)(Q:∀F∈C,F.length<=32/\∀f∈F,1<=f.length/\f.length<=2)(hr:run.length+2*C.length<=1000):Fn prog 84 [mnA m,tmsA D,chsA C,sgsA run] (nlA sgE (srV m D C run)):=by
 induction n using Nat.strongRecOn generalizing C run
 rename_i n ih;refine kF func84 ntmps84 (λg w d=>?_) (hnm:=zwi _);refine gd ?_ ?_<;>intro N
 ·obtain rfl:C=[]:=jN (by omega);refine gc (zgD m run D (by omega)) ?_;refine gd ?_ ?_<;>intro U
  ·have Z:=zyx U;refine gq ?_;all_goals(rw[Z];first|done|rfl)
  have Z:=zyy (m:=m) (run:=run) (D:=D) (by rcases U with e|e;exactλq=>e q.1;exactλq=>e q.2);refine gq ?_;all_goals(rw[Z];first|done|rfl)
 obtain⟨F,r,rfl⟩:∃F r,C=F::r:=by cases C with|nil=>exact absurd rfl N|cons F r=>exact⟨F,r,rfl⟩
 have x2:(F::r)[(0:Int).toNat]? =some F:=rfl;have J:=Q F (by simp);apply yk;iterate 2 apply yf
 refine zy8 3 1000003 (λAd c I=>?_);apply yj;iterate 2 refine ya ?_
 refine yE ?_;apply kB;refine zM (λk=>[(1,tmsA D),(2,chsA (F::r)),(3,.val (.slice Ad run.length c)),(4,.ptr 4 0 0 0),(22,zca F),(23,iv (F.length:Int)),(24,iv (k:Int))]) (λk=>[(4,.box (mnE m) 23),(1000003,.hold [.slice Ad run.length c] [sgsA run])]) (λk=>k<=F.length/\(F.take k).findSome? (λf=>srV m D r (run++f))=none) F.length (λk hk=>?_) (hJ:=by exact⟨by omega,by simp⟩);obtain⟨x1,V⟩:=hk;refine gd ?_ ?_<;>intro x0
 ·obtain⟨f,hf⟩:∃f,F[k]? =some f:=⟨_,lgg (by omega)⟩;have w2:F[(k:Int).toNat]? =some f:=by simpa using hf
  have H:=J.2 f (j6 hf);have E:=zkQ (m:=m) (D:=D) (C:=r) (run:=run++f) (λG hG=>Q G (wZ _ hG)) (by rw[jE];omega);have xT:run.length+f.length<=4000000000:=by simp only[wH]at hr;omega
  refine gq ?_;refine yW [28,29,30,31,32,33,34,35,36,37,38,39] [0,0,0,4,0,0,32,0,128,496,0,2032,4095,8191] mo ?_;iterate 3 refine yb ?_
  first
   |refine ChM.step rfl rfl rfl (k8 (zf rfl rfl rfl zrH ty56 (by omega) (by omega))) rfl ?_
   |refine ChM.step rfl rfl rfl (k8 (zp rfl rfl zrH ty56 (λ_=>rfl) (by omega) (by omega))) rfl ?_
  iterate 2 refine yb ?_
  refine yb ?_ (hs:=by exact zj3 rfl sl33);refine yb ?_;refine yb ?_ (hs:=by exact zj3 rfl sl33);refine ChM.step rfl rfl rfl (k8 (zwE rfl rfl rfl sl33 ty90 I)) rfl ?_;refine yb ?_;refine ChM.step rfl rfl rfl (zjx (k:=39) (kh:=1000003) rfl rfl rfl sl33 ti90 (by decide) (by decide) (λ_=>rfl) H.1 xT) rfl ?_;refine yF ?_;refine kU (k9 (k:=39) rfl) ?_;refine yP (ih r.length (by rw[←hn];simp) r (run++f) rfl (λG hG=>Q G (wZ _ hG)) (by simp only[jE,wH]at*;omega)) ?_;refine ya ?_;apply yG;refine ya ?_;refine zz (zwF Tryz.underlying33 rfl E) rfl ?_;refine gd ?_ ?_<;>intro T
  ·have x4:=wE.1 T;obtain⟨x,hx⟩:=x4;have Z:srV m D (F::r) run=srV m D r (run++f):=by rw[hx];exact zmc (by rw[zok hf V,hx])
   refine gq ?_;all_goals(rw[Z];first|done|rfl)
  have x3:(F.take (k+1)).findSome? (λf=>srV m D r (run++f))=none:=by rw[zok hf V];simpa using T
  refine gq ?_;refine yz (k+1) (hJ:=by exact⟨by omega,x3⟩) (hI:=yi)
 ·obtain rfl:k=F.length:=by omega
  have Z:=zn3 V;refine gq ?_;all_goals(rw[Z];first|done|rfl)
set_option maxHeartbeats 1000000 in
def zb3(m:Mn)(l:List Bt)(h:Hb)(hl:l.length<=4000000000):Fn prog 24 [mnA m,btsA l,hbA h] (.tup [sgsA (wrV m l h),iv (wrE m l h)]):=by
 have U:=zd0 m l h;have T:=zkR m l h;refine kF func24 ntmps24 (λg w d=>?_);refine gc (zfE m l h hl) ?_;refine gd ?_ ?_<;>intro N
 ·have J:=zyz N;obtain⟨hE,Z⟩:=J;apply ye;refine yE ?_;refine kE ?_;refine kA (yd (ts:=[(6,sgsA []),(7,iv (wcnE m l h))]) (hs:=[])) ?_;refine ym ?_ ?_;all_goals(first|exact zE Z|exact zE hE|(rw[Z,V];rfl)|(rw[hE,V];rfl))
 have h0:wcnE m l h=0:=by omega
 have xT:=ziB h0;refine gd ?_ ?_<;>intro x4
 ·have I:=zBu h0 (by omega);obtain⟨hE,Z⟩:=I;apply ye;refine yO ?_;refine kE ?_;refine kA (yd (ts:=[(6,sgsA []),(7,iv 0)]) (hs:=[])) ?_;refine ym ?_ ?_;all_goals(first|exact zE Z|exact zE hE|(rw[Z,V];rfl)|(rw[hE,V];rfl))
 have H:=zBv h0 (show¬l.length=0 by omega);obtain⟨hE,Z⟩:=H;have G:=zkQ (m:=m) (D:=durB l) (run:=[]) T (by rw[U];simp only[wK];omega);refine gq ?_;refine yW [10,24,25,26,27,28,29,30,31] [0,0,2,0,0,0,62,127,255] mo ?_;iterate 2 refine yb ?_
 refine yL (zdZ l hl) ?_;iterate 3 refine yb ?_
 refine yL (zd7 m l h (by omega)) ?_;refine ChM.step rfl rfl rfl (zT rfl rfl rfl (.cons (kH _) (.cons (kH _) (.cons (kH _) (.cons (kP _) .nil)))) (zcN m (durB l) _ (chV m l h) [] rfl T (by rw[U];simp only[wK];omega))) rfl ?_;refine yb ?_;refine yF ?_;apply kQ;apply yf;apply ye;refine ya ?_;refine zz (zqY Tryz.underlying33 rfl G) rfl ?_;refine gd ?_ ?_<;>intro Q
 ·have V:srV m (durB l) (chV m l h) []=none:=by simpa using Q
  apply ye;refine yO ?_;refine kE ?_;refine kA (yd (ts:=[(6,sgsA []),(7,iv 18)]) (hs:=[])) ?_;refine ym ?_ ?_;all_goals(first|exact zE Z|exact zE hE|(rw[Z,V];rfl)|(rw[hE,V];rfl))
 have E:=wE.1 (show(srV m (durB l) (chV m l h) []).isSome=true by simpa using Q);obtain⟨x,hx⟩:=E;refine gq ?_;refine ym ?_ ?_;all_goals(first|(rw[Z,hx];rfl)|(rw[hE,hx];rfl))
end
section
def minL:List Int->Int->Int
 |[],a=>a
 |x::r,a=>minL r (if x<a then x else a)
def meV(m:Mn):Int:=match perfL m with
 |[]=>3
 |x::r=>minL r x
def meU(m:Mn):Tm:=yx m (meV m)
def whB(u s:Tm):Bool:=decide (whE s u=0)&&decide ((whR s u).N=0)
def bkE(u:Tm):Tm->List Bt->Int
 |_,[]=>0
 |s,b::r=>if addE s b.Dur=0 then bkE u (if whB u (addV s b.Dur)then⟨0,1⟩else addV s b.Dur) r else addE s b.Dur
def bkV(u:Tm):Tm->List Bt->List Bt->List (List Bt)
 |_,k,[]=>if k=[]then[]else[k]
 |s,k,b::r=>if whB u (addV s b.Dur)then(k++[b])::bkV u ⟨0,1⟩ [] r else bkV u (addV s b.Dur) (k++[b]) r
def blE(m:Mn)(l:List Bt):Int:=if wcE m l=0 then bkE (meU m) ⟨0,1⟩ l else wcE m l
def blV(m:Mn)(l:List Bt):List (List Bt):=if blE m l=0 then bkV (meU m) ⟨0,1⟩ [] l else[]
def btsE:List Bt->List AV:=λl=>[btsA l]
abbrev blsA(L:List (List Bt)):AV:=.sl btsE L
def suK(s:Tm)(l:List Bt):Nat->Tm
 |0=>s
 |k+1=>addV (suK s l k) (l.getD k default).Dur
def ziC{s:Tm}{l:List Bt}{k:Nat}{b:Bt}(h:l[k]? =some b):suK s l (k+1)=addV (suK s l k) b.Dur:=by
 show addV (suK s l k) (l.getD k default).Dur=_;rw[j8,h];rfl
structure BlK(u:Tm)(l:List Bt)(k:Nat):Prop where
 e:bkE u ⟨0,1⟩ l=bkE u (suK ⟨0,1⟩ l k) (l.drop k)
 v:bkV u ⟨0,1⟩ [] l=bkV u (suK ⟨0,1⟩ l k) (l.take k) (l.drop k)
def zyA(u:Tm)(l:List Bt):BlK u l 0:=⟨rfl,rfl⟩
def BlK.err{u:Tm}{l:List Bt}{k:Nat}{b:Bt}(h:BlK u l k)(V:l[k]? =some b)(he:¬addE (suK ⟨0,1⟩ l k) b.Dur=0):bkE u ⟨0,1⟩ l=addE (suK ⟨0,1⟩ l k) b.Dur:=by
 have Z:=j1.1 V;rw[h.e,jG Z.1,Z.2];show(if addE (suK ⟨0,1⟩ l k) b.Dur=0 then _ else _)=_;rw[j4 he]
def BlK.cut{u:Tm}{l:List Bt}{k:Nat}{b:Bt}(h:BlK u l k)(V:l[k]? =some b)(he:addE (suK ⟨0,1⟩ l k) b.Dur=0)(U:whB u (suK ⟨0,1⟩ l (k+1))=true):bkE u ⟨0,1⟩ l=bkE u ⟨0,1⟩ (l.drop (k+1))/\bkV u ⟨0,1⟩ [] l=l.take (k+1)::bkV u ⟨0,1⟩ [] (l.drop (k+1)):=by
 have Z:=j1.1 V;rw[ziC V]at U;refine⟨?_,?_⟩
 ·rw[h.e,jG Z.1,Z.2];show(if addE (suK ⟨0,1⟩ l k) b.Dur=0 then bkE u (if whB u (addV (suK ⟨0,1⟩ l k) b.Dur)then⟨0,1⟩else _) _ else _)=_;rw[j3 he,j3 U]
 ·rw[h.v,jG Z.1,Z.2];show(if whB u (addV (suK ⟨0,1⟩ l k) b.Dur)then _ else _)=_;rw[j3 U,jF,V];rfl
def BlK.s{u:Tm}{l:List Bt}{k:Nat}{b:Bt}(h:BlK u l k)(V:l[k]? =some b)(he:addE (suK ⟨0,1⟩ l k) b.Dur=0)(T:¬whB u (suK ⟨0,1⟩ l (k+1))=true):BlK u l (k+1):=by
 have U:=j1.1 V;have Z:=T;rw[ziC V]at Z;refine⟨?_,?_⟩
 ·rw[h.e,jG U.1,U.2,ziC V];show(if addE (suK ⟨0,1⟩ l k) b.Dur=0 then bkE u (if whB u (addV (suK ⟨0,1⟩ l k) b.Dur)then _ else _) _ else _)=_;rw[j3 he,j4 Z]
 ·rw[h.v,jG U.1,U.2,ziC V];show(if whB u (addV (suK ⟨0,1⟩ l k) b.Dur)then _ else _)=_;rw[j4 Z,jF,V];rfl
def BlK.fin{u:Tm}{l:List Bt}(h:BlK u l l.length)(hl:0<l.length):bkE u ⟨0,1⟩ l=0/\bkV u ⟨0,1⟩ [] l=[l]:=by
 have e1:=h.e;have e2:=h.v;rw[wQ]at e1 e2;rw[jH]at e2;refine⟨e1,?_⟩;rw[e2];show(if l=[]then[]else[l])=[l];rw[j4 (λe=>by rw[e]at hl;simp at hl)]
structure BlO(u:Tm)(l l':List Bt)(O:List (List Bt)):Prop where
 e:bkE u ⟨0,1⟩ l=bkE u ⟨0,1⟩ l'
 v:bkV u ⟨0,1⟩ [] l=O++bkV u ⟨0,1⟩ [] l'
 n:O.length+l'.length<=l.length
def zyB(u:Tm)(l:List Bt):BlO u l l []:=⟨rfl,rfl,by simp⟩
def BlO.cut{u:Tm}{l l':List Bt}{O:List (List Bt)}{k:Nat}{b:Bt}(h:BlO u l l' O)(V:BlK u l' k)(Z:l'[k]? =some b)(he:addE (suK ⟨0,1⟩ l' k) b.Dur=0)(U:whB u (suK ⟨0,1⟩ l' (k+1))=true):BlO u l (l'.drop (k+1)) (O++[l'.take (k+1)]):=by
 obtain⟨T,Q⟩:=V.cut Z he U;have N:=(j1.1 Z).1;have J:=h.n;refine⟨h.e.trans T,by rw[h.v,Q];simp,?_⟩;simp only[jE,wH,wK,wM];omega
def BlO.last{u:Tm}{l l':List Bt}{O:List (List Bt)}(h:BlO u l l' O)(Z:BlK u l' l'.length)(hl:0<l'.length):BlO u l [] (O++[l']):=by
 obtain⟨V,U⟩:=Z.fin hl;have T:=h.n;refine⟨h.e.trans V,by rw[h.v,U];simp[bkV],?_⟩;simp only[jE,wH,wK];omega
def zyC{m:Mn}{l:List Bt}(c:¬wcE m l=0):blE m l=wcE m l/\blV m l=[]:=by
 have e:blE m l=wcE m l:=by unfold blE;rw[j4 c]
 exact⟨e,by unfold blV;rw[e,j4 c]⟩
def zBw{m:Mn}{l l':List Bt}{O:List (List Bt)}{k:Nat}{b:Bt}(c:wcE m l=0)(h:BlO (meU m) l l' O)(Z:BlK (meU m) l' k)(V:l'[k]? =some b)(he:¬addE (suK ⟨0,1⟩ l' k) b.Dur=0):blE m l=addE (suK ⟨0,1⟩ l' k) b.Dur/\blV m l=[]:=by
 have e:blE m l=addE (suK ⟨0,1⟩ l' k) b.Dur:=by unfold blE;rw[j3 c,h.e,Z.err V he]
 exact⟨e,by unfold blV;rw[e,j4 he]⟩
def zBx{m:Mn}{l:List Bt}{O:List (List Bt)}(c:wcE m l=0)(h:BlO (meU m) l [] O):blE m l=0/\blV m l=O:=by
 have e:blE m l=0:=by unfold blE;rw[j3 c,h.e];rfl
 exact⟨e,by unfold blV;rw[j3 e,h.v];simp[bkV]⟩
def meQ(m:Mn)(_:Int):Bool:=decide (1<=meV m)&&decide (meV m<=4)
def zsG:zer meQ=true:=by kernel_rfl
end
end Go.Rse
