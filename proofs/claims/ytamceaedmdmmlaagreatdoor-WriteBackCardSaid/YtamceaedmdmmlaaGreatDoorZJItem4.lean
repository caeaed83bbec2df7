/-
  Walks.
-/
import Derived.Test.YtamceaedmdmmlaaGreatDoorZJItF0
import Derived.Test.YtamceaedmdmmlaaGreatDoorZJRse46
set_option linter.all false
set_option maxHeartbeats 4000000
namespace Go.Rse
open Go Go.Proofs Go.Proofs.Tryz
attribute [local irreducible] Pur yy yz Ex X Fn Imp LeV LeB FnO It yH
attribute [local irreducible] ckD zi twos prL mnsD
def zfV(m:Mn)(l:List Sg)(hl:l.length<=1000):Fn prog 88 [mnA m,sgsA l] (.tup [yc (if ckD m l=0 then zi m l else[]),yc (twos (prL m l).length),iv (ckD m l)]):=by
 refine kR func88 ntmps88 (λg w d=>?_);refine gc (zfs m l hl) ?_;refine gd ?_ ?_<;>intro Z
 ·have ht:[]=twos (prL m l).length:=by rw[znJ Z];unfold twos;rfl
  have hr:[]=(if ckD m l=0 then zi m l else[]):=by rw[j7 Z]
  apply ye;refine ya ?_;refine yC ?_;refine kQ ?_;refine kM (yd (ts:=[(4,yc []),(5,yc []),(6,iv (ckD m l))]) (hs:=[])) ?_;refine kY (.many (by decide) (.cons (.tmp rfl (kO ?_)) (.cons (.tmp rfl (kO ?_)) (.cons (.tmp rfl (kO ?_)) .nil))));all_goals(first|exact j9 yc ht|exact j9 yc hr|rfl)
 refine gc (zf7 m l hl) ?_;refine gd ?_ ?_<;>intro V
 ·exact absurd Z V
 refine gq ?_;refine kY (.many (by decide) (.cons (.tmp rfl (kO ?_)) (.cons (.tmp rfl (kO ?_)) (.cons (.tmp rfl (kO ?_)) .nil))));all_goals(first|rfl|exact j9 (AV.int .i64) Z.symm)
end Go.Rse
namespace Go.Rse
open Go Go.Proofs Go.RowKit Go.Proofs.Tryz
attribute [local irreducible] Pur yy yz Ex X Fn Imp LeV LeB FnO It yH
def zqO(m:Mn)(l:List Sg)(ch mi:List Int):(itmV m l ch mi).length<=l.length:=by
 unfold itmV;split
 ·rw[zfQ];exact zk7 l _
 ·simp
attribute [local irreducible] itmE itmV zi ckD twos prL
end Go.Rse
namespace Go.Rse
open Go Go.Proofs Go.Proofs.Tryz
attribute [local irreducible] Pur yy yz Ex X Fn Imp LeV LeB FnO It yH FnW FnOW FnP FnD
section
def rdI(m:Mn)(l:List Sg):List Ite:=itmV m l (zi m l) (twos (prL m l).length)
def rdE(m:Mn)(l:List Sg):Int:=if ckD m l=0 then leE m (rdI m l)else ckD m l
def rdV(m:Mn)(l:List Sg):Rdg:=if rdE m l=0 then⟨zi m l,twos (prL m l).length,leC m (rdI m l),(leI m (rdI m l)).map (·.Dur)⟩else⟨[],[],[],[]⟩
section
variable{m:Mn}{l:List Sg}
def zqP(h:ckD m l=0):itmE m l (zi m l) (twos (prL m l).length)=0:=by
 unfold itmE;rw[j6 (zoq (zdx h).1 h)];exact zor h
def zxu(h:¬ckD m l=0):rdE m l=ckD m l/\rdV m l=⟨[],[],[],[]⟩:=by
 have:rdE m l=ckD m l:=by unfold rdE;rw[j7 h]
 refine⟨this,?_⟩;unfold rdV;rw[this,j7 h]
def zxv(h:ckD m l=0)(Z:¬leE m (rdI m l)=0):rdE m l=leE m (rdI m l)/\rdV m l=⟨[],[],[],[]⟩:=by
 have:rdE m l=leE m (rdI m l):=by unfold rdE;rw[j6 h]
 refine⟨this,?_⟩;unfold rdV;rw[this,j7 Z]
def zxw(h:ckD m l=0)(Z:leE m (rdI m l)=0):rdE m l=0/\rdV m l=⟨zi m l,twos (prL m l).length,leC m (rdI m l),(leI m (rdI m l)).map (·.Dur)⟩:=by
 have:rdE m l=0:=by unfold rdE;rw[j6 h,Z]
 refine⟨this,?_⟩;unfold rdV;rw[this,j6 rfl]
def zh9:(rdI m l).length<=l.length:=zqO _ _ _ _
end
def zos{m:Mn}:∀(L:List Int)(l:List Ite)(C:List Int),(lvF m L l C).2.1.length<=l.length
 |[],l,C=>jE _
 |k::r,l,C=>by
  unfold lvF;split
  ·rename_i h;have:=zos (m:=m) r (apV m k l (cuV m k l)) (C++cuV m k l);rw[zlG (zkn h)]at this;exact this
  ·simp
def zli(m:Mn)(l:List Ite):(leI m l).length<=l.length:=by
 unfold leI;split
 ·exact zos _ _ _
 ·simp
def zqQ{l:List Ite}{n:Nat}{x:Ite}(h:l[n]? =some x):(l.take n).map (·.Dur)++[x.Dur]=(l.take (n+1)).map (·.Dur):=by
 rw[jG,h];simp
end
section
attribute [local irreducible] leE leC leI rdI rdE rdV ckD zi twos prL itmV itmE
def zhC(m:Mn)(l:List Sg)(hl:l.length<=1000):Fn prog 36 [mnA m,sgsA l] (.tup [rdgA (rdV m l),iv (rdE m l)]):=by
 have hR:=zmy m l hl;have x2:=zh9 (m:=m) (l:=l);have x1:=zli m (rdI m l);have V:(twos (prL m l).length).length<=1000:=by rw[zcc];have:=zdZ m l;omega
 have x0:(zi m l).length<=4000000:=by have:=zgw m l;have:=zgV m l;omega
 refine kR func36 ntmps36 (λg w d=>?_);refine gc (zce m l hl) ?_;refine gd ?_ ?_<;>intro U
 ·have T:=zxu U;obtain⟨hE,Z⟩:=T;apply ye;iterate 2 refine ya ?_
  refine kV ?_;refine yj ?_;refine kQ ?_;refine kM (bL (ts:=[(4,.ptr 4 0 0 0),(5,iv (ckD m l))]) (hs:=[(4,.box [yc [],yc [],yc [],tmsA []] 50)]) ⟨⟨_,rfl,kX _⟩,⟨_,rfl,kX _⟩,True.intro⟩ ⟨⟨_,rfl,bQ (.cons (bB _) (.cons (bB _) (.cons (bB _) (.cons (bB _) .nil))))⟩,True.intro⟩) ?_;refine yx ty50 ?_ ?_;all_goals(first|exact j9 (λz=>AV.agg (rdgE z)) Z.symm|exact j9 (λz=>AV.int .i64 z) hE.symm)
 have h0:ckD m l=0:=by omega
 rw[j6 h0,h0]at hR;have N:=zqP h0
 have hI:Fn prog 62 [mnA m,sgsA l,yc (zi m l),yc (twos (prL m l).length)] (.tup [itsA (rdI m l),iv 0]):=by
  have h:=zlh m l (zi m l) (twos (prL m l).length) hl V;rw[N]at h;unfold rdI;exact h
 refine gc hR ?_;refine gd ?_ ?_<;>intro J
 ·exact absurd rfl J
 refine gc hI ?_;refine gd ?_ ?_<;>intro H
 ·exact absurd rfl H
 refine gc (zj3 m (rdI m l) (by omega)) ?_;refine gd ?_ ?_<;>intro G
 ·have E:=zxv h0 G;obtain⟨hE,Z⟩:=E;apply ye;iterate 2 refine ya ?_
  refine kV ?_;refine yj ?_;refine kQ ?_;refine kM (bL (ts:=[(4,.ptr 4 0 0 0),(5,iv (leE m (rdI m l)))]) (hs:=[(4,.box [yc [],yc [],yc [],tmsA []] 50)]) ⟨⟨_,rfl,kX _⟩,⟨_,rfl,kX _⟩,True.intro⟩ ⟨⟨_,rfl,bQ (.cons (bB _) (.cons (bB _) (.cons (bB _) (.cons (bB _) .nil))))⟩,True.intro⟩) ?_;refine yx ty50 ?_ ?_;all_goals(first|exact j9 (λz=>AV.agg (rdgE z)) Z.symm|exact j9 (λz=>AV.int .i64 z) hE.symm)
 have h2:leE m (rdI m l)=0:=by omega
 have xT:=zxw h0 h2;obtain⟨hE,x4⟩:=xT;have w9:[]=((leI m (rdI m l)).take 0).map (λx=>x.Dur):=by simp
 apply yk;apply ye;iterate 4 refine ya ?_
 refine za ?_;refine kV ?_;apply kW;iterate 2 apply yh
 refine kT (st':=⟨[(4,.ptr 4 0 0 0),(10,itsA (leI m (rdI m l))),(12,.ptr 12 0 0 0)],[(4,.box [.nils,.nils,.nils,.nils] 50),(12,.box [yc (zi m l),yc (twos (prL m l).length),yc (leC m (rdI m l)),.own 40] 50),(40,.row tmE [] 61 2)]⟩) ((zda tmE 61 2 12 40 3 50 _ [yc (zi m l),yc (twos (prL m l).length),yc (leC m (rdI m l)),.own 40] rfl rfl rfl rfl).trans yd) ?_;apply yf;refine yC ?_;apply kP;refine zm (λn=>[(4,.ptr 4 0 0 0),(12,.ptr 12 0 0 0),(60,itsA (leI m (rdI m l))),(61,iv (leI m (rdI m l)).length),(62,iv (n:Int))]) (λn=>[(4,.box [.nils,.nils,.nils,.nils] 50),(12,.box [yc (zi m l),yc (twos (prL m l).length),yc (leC m (rdI m l)),.own 40] 50),(40,.row tmE (((leI m (rdI m l)).take n).map (λx=>x.Dur)) 61 2)]) ((leI m (rdI m l)).length) (λn hk=>?_);refine gd ?_ ?_<;>intro w2
 ·have x3:=@getX _ (leI m (rdI m l)) n (by omega);obtain⟨x,hx,v9⟩:=x3;have v8:=zqQ hx;have v5:(((leI m (rdI m l)).take n).map (λx=>x.Dur)).length<=1000:=by rw[jS,jO];omega
  refine gq ?_;refine yD tmE [⟨_,_⟩] ?_;refine gq ?_;refine yu (n+1) (hI:=yg)
 ·have hn:n=(leI m (rdI m l)).length:=by omega
  subst hn;have Z:rdV m l=⟨zi m l,twos (prL m l).length,leC m (rdI m l),((leI m (rdI m l)).take (leI m (rdI m l)).length).map (λx=>x.Dur)⟩:=by rw[x4,jK]
  apply bA;apply yh;refine kT (st':=⟨[(4,.ptr 4 0 0 0),(12,.ptr 12 0 0 0)],[(4,.box [.nils,.nils,.nils,.nils] 50),(12,.box [yc (zi m l),yc (twos (prL m l).length),yc (leC m (rdI m l)),tmsA (((leI m (rdI m l)).take (leI m (rdI m l)).length).map (λx=>x.Dur))] 50)]⟩) ((kL (k:=40) rfl).trans yd) ?_;refine gq ?_;refine yx ty50 ?_ ?_;all_goals(first|exact j9 (λz=>AV.agg (rdgE z)) Z.symm|exact j9 (λz=>AV.int .i64 z) hE.symm)
def zfW(m:Mn)(l:List Sg)(hl:l.length<=1000):Fn prog 54 [mnA m,sgsA l] (.tup [rdgA (rdV m l),iv (rdE m l)]):=by
 have hR:=zfV m l hl;have x1:=zh9 (m:=m) (l:=l);have x0:=zli m (rdI m l);have T:(twos (prL m l).length).length<=1000:=by rw[zcc];have:=zdZ m l;omega
 have N:(zi m l).length<=4000000:=by have:=zgw m l;have:=zgV m l;omega
 refine kR func54 ntmps54 (λg w d=>?_);refine gc (zcb m l hl) ?_;refine gd ?_ ?_<;>intro J
 ·have H:=zxu J;obtain⟨hE,Z⟩:=H;apply ye;iterate 2 refine ya ?_
  refine kV ?_;refine yj ?_;refine kQ ?_;refine kM (bL (ts:=[(4,.ptr 4 0 0 0),(5,iv (ckD m l))]) (hs:=[(4,.box [yc [],yc [],yc [],tmsA []] 50)]) ⟨⟨_,rfl,kX _⟩,⟨_,rfl,kX _⟩,True.intro⟩ ⟨⟨_,rfl,bQ (.cons (bB _) (.cons (bB _) (.cons (bB _) (.cons (bB _) .nil))))⟩,True.intro⟩) ?_;refine yx ty50 ?_ ?_;all_goals(first|exact j9 (λz=>AV.agg (rdgE z)) Z.symm|exact j9 (λz=>AV.int .i64 z) hE.symm)
 have h0:ckD m l=0:=by omega
 rw[j6 h0,h0]at hR;have G:=zqP h0
 have hI:Fn prog 89 [mnA m,sgsA l,yc (zi m l),yc (twos (prL m l).length)] (.tup [itsA (rdI m l),iv 0]):=by
  have h:=zfq m l (zi m l) (twos (prL m l).length) hl N T;rw[G]at h;unfold rdI;exact h
 refine gc hR ?_;refine gc hI ?_;refine gc (zeF m (rdI m l) (by omega)) ?_;refine gd ?_ ?_<;>intro E
 ·have xT:=zxv h0 E;obtain⟨hE,Z⟩:=xT;apply ye;iterate 2 refine ya ?_
  refine kV ?_;refine yj ?_;refine kQ ?_;refine kM (bL (ts:=[(4,.ptr 4 0 0 0),(5,iv (leE m (rdI m l)))]) (hs:=[(4,.box [yc [],yc [],yc [],tmsA []] 50)]) ⟨⟨_,rfl,kX _⟩,⟨_,rfl,kX _⟩,True.intro⟩ ⟨⟨_,rfl,bQ (.cons (bB _) (.cons (bB _) (.cons (bB _) (.cons (bB _) .nil))))⟩,True.intro⟩) ?_;refine yx ty50 ?_ ?_;all_goals(first|exact j9 (λz=>AV.agg (rdgE z)) Z.symm|exact j9 (λz=>AV.int .i64 z) hE.symm)
 have h2:leE m (rdI m l)=0:=by omega
 have x4:=zxw h0 h2;obtain⟨hE,x3⟩:=x4;have w9:[]=((leI m (rdI m l)).take 0).map (λx=>x.Dur):=by simp
 apply yk;apply ye;iterate 4 refine ya ?_
 refine za ?_;refine kV ?_;apply kW;iterate 2 apply yh
 refine kT (st':=⟨[(4,.ptr 4 0 0 0),(10,itsA (leI m (rdI m l))),(13,.ptr 13 0 0 0)],[(4,.box [.nils,.nils,.nils,.nils] 50),(13,.box [yc (zi m l),yc (twos (prL m l).length),yc (leC m (rdI m l)),.own 40] 50),(40,.row tmE [] 61 2)]⟩) ((zda tmE 61 2 13 40 3 50 _ [yc (zi m l),yc (twos (prL m l).length),yc (leC m (rdI m l)),.own 40] rfl rfl rfl rfl).trans yd) ?_;apply yf;refine yj ?_;apply kP;refine zm (λn=>[(4,.ptr 4 0 0 0),(13,.ptr 13 0 0 0),(10,itsA (leI m (rdI m l))),(14,iv (n:Int))]) (λn=>[(4,.box [.nils,.nils,.nils,.nils] 50),(13,.box [yc (zi m l),yc (twos (prL m l).length),yc (leC m (rdI m l)),.own 40] 50),(40,.row tmE (((leI m (rdI m l)).take n).map (λx=>x.Dur)) 61 2)]) ((leI m (rdI m l)).length) (λn hk=>?_);refine gd ?_ ?_<;>intro w2
 ·have x2:=@getX _ (leI m (rdI m l)) n (by omega);obtain⟨x,hx,V⟩:=x2;have v9:=zqQ hx;have v8:(((leI m (rdI m l)).take n).map (λx=>x.Dur)).length<=1000:=by rw[jS,jO];omega
  refine gq ?_;refine bI [⟨0,58,.ptr 13 0 0 (0+3),[]⟩,⟨2,60,itsA (leI m (rdI m l)),[]⟩,⟨3,61,iv (n:Int),[]⟩,⟨4,62,.ept itE x 0,[3,2]⟩,⟨5,63,.ept itE x (0+6),[3,2,4]⟩,⟨6,64,tmA x.Dur,[3,2,4,5]⟩,⟨7,65,tmsA [x.Dur],[3,2,4,5,6]⟩,⟨9,67,.ptr 13 0 0 (0+3),[8,7,6,5,4,3,2,1,0]⟩] [(1,[0]),(8,[3,2,4,5,6,0,7,1]),(10,[7,6,5,4,3,2,1,0,8,9])] (λj=>match j with|0=>⟨[(4,.ptr 4 0 0 0),(13,.ptr 13 0 0 0),(10,itsA (leI m (rdI m l))),(14,iv (n:Int))],[(4,.box [.nils,.nils,.nils,.nils] 50),(13,.box [yc (zi m l),yc (twos (prL m l).length),yc (leC m (rdI m l)),.own 40] 50),(40,.row tmE (((leI m (rdI m l)).take n).map (λx=>x.Dur)) 61 2)]⟩|1=>⟨[(4,.ptr 4 0 0 0),(13,.ptr 13 0 0 0),(10,itsA (leI m (rdI m l))),(14,iv (n:Int)),(59,.own 40)],[(4,.box [.nils,.nils,.nils,.nils] 50),(13,.box [yc (zi m l),yc (twos (prL m l).length),yc (leC m (rdI m l)),.own 40] 50),(40,.row tmE (((leI m (rdI m l)).take n).map (λx=>x.Dur)) 61 2)]⟩|2=>⟨[(4,.ptr 4 0 0 0),(13,.ptr 13 0 0 0),(10,itsA (leI m (rdI m l))),(14,iv (n:Int)),(66,.own 40)],[(4,.box [.nils,.nils,.nils,.nils] 50),(13,.box [yc (zi m l),yc (twos (prL m l).length),yc (leC m (rdI m l)),.any] 50),(40,.row tmE (((leI m (rdI m l)).take n).map (λx=>x.Dur)++[x.Dur]) 61 2)]⟩|_=>⟨[(4,.ptr 4 0 0 0),(13,.ptr 13 0 0 0),(10,itsA (leI m (rdI m l))),(14,iv (n:Int))],[(4,.box [.nils,.nils,.nils,.nils] 50),(13,.box [yc (zi m l),yc (twos (prL m l).length),yc (leC m (rdI m l)),.own 40] 50),(40,.row tmE (((leI m (rdI m l)).take n).map (λx=>x.Dur)++[x.Dur]) 61 2)]⟩) mo (by kernel_rfl) (zj (yd)) (λj hj=>?_) (λj c U β hβ=>?_) ?_
  ·rcases j with _|_|_|_|j
   ·(iterate 3 refine⟨.inr ⟨_,rfl,rfl,rfl,rfl,kK yK⟩,?_⟩);refine⟨.inr ⟨_,rfl,rfl,rfl,rfl,kK (zam (enc:=itE) (l:=(leI m (rdI m l))) (u:=x) rfl rfl SlK.h TyK.h (λ_=>rfl) (by omega) V)⟩,?_⟩;(iterate 2 refine⟨.inr ⟨_,rfl,rfl,rfl,rfl,kK yK⟩,?_⟩);refine⟨.inr ⟨_,rfl,rfl,rfl,rfl,yr (enc:=tmE) (l:=[x.Dur]) sl38 ty61 ze61 (by decide) rfl rfl rfl rfl (by decide) (by decide) (λ_=>rfl) rfl⟩,?_⟩;exact yF
   ·refine⟨.inl rfl,?_⟩;(iterate 2 refine⟨.inr ⟨_,rfl,rfl,rfl,rfl,kK yK⟩,?_⟩);refine⟨.inr ⟨_,rfl,rfl,rfl,rfl,kK (zam (enc:=itE) (l:=(leI m (rdI m l))) (u:=x) rfl rfl SlK.h TyK.h (λ_=>rfl) (by omega) V)⟩,?_⟩;(iterate 2 refine⟨.inr ⟨_,rfl,rfl,rfl,rfl,kK yK⟩,?_⟩);refine⟨.inr ⟨_,rfl,rfl,rfl,rfl,yr (enc:=tmE) (l:=[x.Dur]) sl38 ty61 ze61 (by decide) rfl rfl rfl rfl (by decide) (by decide) (λ_=>rfl) rfl⟩,?_⟩;exact yF
   ·exact yF
   ·exact yF
   ·exact absurd (show j+4<=3 from hj) (by omega)
  ·rcases j with _|_|_|j
   ·obtain rfl:(1,[0])=c:=by injection U
    refine yp rfl (yn (st0:=⟨[(58,.ptr 13 0 0 (0+3)),(60,.ifb (β 2) (itsA (leI m (rdI m l)))),(61,.ifb (β 3) (iv (n:Int))),(62,.ifb (β 4) (.ept itE x 0)),(63,.ifb (β 5) (.ept itE x (0+6))),(64,.ifb (β 6) (tmA x.Dur)),(65,.ifb (β 7) (tmsA [x.Dur])),(67,.ifb (β 9) (.ptr 13 0 0 (0+3))),(4,.ptr 4 0 0 0),(13,.ptr 13 0 0 0),(10,itsA (leI m (rdI m l))),(14,iv (n:Int))],[(4,.box [.nils,.nils,.nils,.nils] 50),(13,.box [yc (zi m l),yc (twos (prL m l).length),yc (leC m (rdI m l)),.own 40] 50),(40,.row tmE (((leI m (rdI m l)).take n).map (λx=>x.Dur)) 61 2)]⟩) (ym) ?_);refine yz.imp (yL (kK yK) rfl rfl) (ym)
   ·obtain rfl:(8,[3,2,4,5,6,0,7,1])=c:=by injection U
    refine yp rfl (yn (st0:=⟨[(58,.ptr 13 0 0 (0+3)),(60,itsA (leI m (rdI m l))),(61,iv (n:Int)),(62,.ept itE x 0),(63,.ept itE x (0+6)),(64,tmA x.Dur),(65,tmsA [x.Dur]),(67,.ifb (β 9) (.ptr 13 0 0 (0+3))),(4,.ptr 4 0 0 0),(13,.ptr 13 0 0 0),(10,itsA (leI m (rdI m l))),(14,iv (n:Int)),(59,.own 40)],[(4,.box [.nils,.nils,.nils,.nils] 50),(13,.box [yc (zi m l),yc (twos (prL m l).length),yc (leC m (rdI m l)),.own 40] 50),(40,.row tmE (((leI m (rdI m l)).take n).map (λx=>x.Dur)) 61 2)]⟩) (ym) ?_);refine yz.imp (zL (l2:=[x.Dur]) rfl rfl rfl sl38 ti61 (by decide) (by decide) (λ_=>rfl) (λ_=>rfl) (by simp only[w8,wQ];omega) rfl) (ym)
   ·obtain rfl:(10,[7,6,5,4,3,2,1,0,8,9])=c:=by injection U
    refine yp rfl (yn (st0:=⟨[(58,.ptr 13 0 0 (0+3)),(60,itsA (leI m (rdI m l))),(61,iv (n:Int)),(62,.ept itE x 0),(63,.ept itE x (0+6)),(64,tmA x.Dur),(65,tmsA [x.Dur]),(67,.ptr 13 0 0 (0+3)),(4,.ptr 4 0 0 0),(13,.ptr 13 0 0 0),(10,itsA (leI m (rdI m l))),(14,iv (n:Int)),(66,.own 40)],[(4,.box [.nils,.nils,.nils,.nils] 50),(13,.box [yc (zi m l),yc (twos (prL m l).length),yc (leC m (rdI m l)),.any] 50),(40,.row tmE (((leI m (rdI m l)).take n).map (λx=>x.Dur)++[x.Dur]) 61 2)]⟩) (ym) ?_);refine yz.imp (zU rfl rfl rfl rfl TyK.h (by simp)) (ym)
   ·exact absurd U (by simp)
  refine gq ?_;refine yu (n+1) (hI:=yg)
 ·have hn:n=(leI m (rdI m l)).length:=by omega
  subst hn;have Z:rdV m l=⟨zi m l,twos (prL m l).length,leC m (rdI m l),((leI m (rdI m l)).take (leI m (rdI m l)).length).map (λx=>x.Dur)⟩:=by rw[x3,jK]
  apply bA;apply yh;refine kT (st':=⟨[(4,.ptr 4 0 0 0),(13,.ptr 13 0 0 0)],[(4,.box [.nils,.nils,.nils,.nils] 50),(13,.box [yc (zi m l),yc (twos (prL m l).length),yc (leC m (rdI m l)),tmsA (((leI m (rdI m l)).take (leI m (rdI m l)).length).map (λx=>x.Dur))] 50)]⟩) ((kL (k:=40) rfl).trans yd) ?_;refine gq ?_;refine yx ty50 ?_ ?_;all_goals(first|exact j9 (λz=>AV.agg (rdgE z)) Z.symm|exact j9 (λz=>AV.int .i64 z) hE.symm)
end
section
structure Ru where
 M:Mn
 S:List Sg
def ruE:Ru->List AV:=λr=>[iv r.M.Max,iv r.M.Mod,iv r.M.Tem,iv r.M.Pro,sgsA r.S]
def rusV(l:List Sg):List Ru:=(scV l).map λc=>⟨c.M,rcV l c⟩
def rsK:List Ru->Nat->(Int×Int)
 |[],k=>(0,0)
 |r::L,k=>if rdE r.M r.S=0 then rsK L (k+1)else(rdE r.M r.S,(k:Int))
def rsR(L:List Ru):List Rdg:=L.map λr=>rdV r.M r.S
def joV(L:List Rdg):Rdg:=⟨L.flatMap (·.Dots),L.flatMap (·.Minor),L.flatMap (·.Choices),L.flatMap (·.Durs)⟩
def zwa{r:Ru}{L:List Ru}{k:Nat}(h:rdE r.M r.S=0):rsK (r::L) k=rsK L (k+1):=by rw[rsK,j6 h]
def zAh{r:Ru}{L:List Ru}{k:Nat}(h:¬rdE r.M r.S=0):rsK (r::L) k=(rdE r.M r.S,(k:Int)):=by rw[rsK,j7 h]
def zmz(l:List Sg):(rusV l).length<=l.length+1:=by unfold rusV;rw[jS];exact zlt l
def zxx{l:List Sg}{k:Nat}{c:Sc}(h:(scV l)[k]? =some c):(rusV l)[k]? =some ⟨c.M,rcV l c⟩:=by unfold rusV;rw[jN,h];rfl
def ztq(l:List Sg){c:Sc}(h:ScR l.length c):(rcV l c).length<=l.length:=by
 have:=(zlE l c.F.toNat (c.T-c.F).toNat).1;have h1:=h.f;have Z:=h.t;have V:=h.n;unfold rcV;omega
def zot{l:List Sg}:∀r∈rusV l,r.S.length<=l.length:=by
 intro r hr;unfold rusV at hr;obtain⟨c,Z,rfl⟩:=jW.1 hr;exact ztq l (zro l c Z)
def zou{α:Type}{L:List α}{k:Nat}{r:α}(h:L[k]? =some r):L.drop k=r::L.drop (k+1):=by
 have h1:=j5.1 h;rw[jL h1.1,h1.2]
def zAi{α β:Type}{f:α->List β}{L:List α}{k:Nat}{x:α}(h:L[k]? =some x):(L.take k).flatMap f++f x=(L.take (k+1)).flatMap f:=by
 rw[jG,h];simp
def zwb{α β:Type}(f:α->List β)(L:List α)(k:Nat):((L.take k).flatMap f).length<=(L.flatMap f).length:=by
 have:(L.take k).flatMap f++(L.drop k).flatMap f=L.flatMap f:=by rw[←xZ,wB]
 rw[←this,jC];omega
def zAj{L:List Ru}{k:Nat}{r:Ru}(h:L[k]? =some r):rsR (L.take k)++[rdV r.M r.S]=rsR (L.take (k+1)):=by
 unfold rsR;rw[jG,h];simp
def zmA{α β:Type}{f:α->List β}{b:Nat}:∀{L:List α},(∀x∈L,(f x).length<=b)->(L.flatMap f).length<=L.length*b
 |[],_=>by simp
 |x::L,h=>by
  have h1:=h x (by simp);have V:=zmA (L:=L) λy Z=>h y (wE _ Z)
  rw[vX,jC,w8,Nat.add_mul];omega
def rpV(l:List Sg):Rdg:=if(rsK (rusV l) 0).1=0 then joV (rsR (rusV l))else⟨[],[],[],[]⟩
end
section
attribute [local irreducible] rdE rdV
def zhD(m:Mn)(l:List Sg)(hl:l.length<=1000):Fn prog 10 [mnA m,sgsA l] (.tup [tmsA (rdV m l).Durs,iv (rdE m l)]):=by
 refine kR func10 ntmps10 (λg w d=>?_);refine gc (zhC m l hl) ?_;refine yl ?_ ?_;all_goals(first|(with_reducible rfl)|rfl)
def zfX(m:Mn)(l:List Sg)(hl:l.length<=1000):Fn prog 28 [mnA m,sgsA l] (.tup [tmsA (rdV m l).Durs,iv (rdE m l)]):=by
 refine kR func28 ntmps28 (λg w d=>?_);refine gc (zfW m l hl) ?_;refine yl ?_ ?_;all_goals(first|(with_reducible rfl)|rfl)
def zov{m:Mn}{l:List Sg}:(rdV m l).Durs.length<=l.length:=by
 unfold rdV;split
 ·show((leI m (rdI m l)).map _).length<=_;rw[jS];exact jT (zli _ _) zh9
 ·simp
def zgx(m:Mn)(l:List Sg)(D:List Tm)(hl:l.length<=1000):Fn prog 41 [mnA m,sgsA l,tmsA D] (.bool (decide (rdE m l=0)&&decide ((rdV m l).Durs=D))):=by
 have hr:=zov (m:=m) (l:=l);refine kR func41 ntmps41 (λg w d=>?_);refine gq ?_;refine yR (zhD m l hl) ?_;iterate 5 refine ya ?_
 apply yE;iterate 2 refine ya ?_
 refine kU 2 ?_;refine gq ?_;refine bJ (zbC (rdV m l).Durs D (by omega)) ?_;refine ge ?_;all_goals exact zR
end
section
def zAk{m:Mn}{k:Int}{l:List Ite}{M:List Int}(h:apE m k l M=0):segE m k l=0/\(segV m k l).length=M.length/\okJ (unT m k) k (segV m k l) l M M.length=true:=by
 unfold apE at h;split at h
 ·split at h
  ·cases h
  ·rename_i h1 Z;refine⟨h1,jV λe=>Z (.inl e),?_⟩;cases hk:okJ (unT m k) k (segV m k l) l M M.length with
   |true=>rfl
   |false=>exact absurd (.inr hk) Z
 ·exact absurd h (by assumption)
end
section
end
section
def ztr{m:Mn}{l:List Sg}{x y:Int}(hx:zb m l x=true)(Z:zb m l y=true):x≠y+1:=λe=>by
 subst e;have a:=(zca hx).2.2.1;have b:=(zca Z).2.2.2.2;rw[b]at a;exact absurd a (by decide)
def zhh{m:Mn}{l:List Sg}:∀k,(zk m l k).Pairwise (λa b=>a+1<b)
 |0=>by unfold zk;exact .nil
 |k+1=>by
  unfold zk;split
  ·rename_i V;refine vM.2 ⟨zhh k,by simp,λa U b Z=>?_⟩;simp at Z;subst Z;have h1:=ze9 k a U;have T:=ztr V h1.1;omega
  ·exact zhh k
def ziJ{m:Mn}{l:List Sg}{k:Nat}(h:zb m l (k:Int)=true):∀n,k<n->(zk m l n)[(zk m l k).length]? =some (k:Int)
 |0,hn=>by omega
 |n+1,hn=>by
  rcases wD k n with h1|h1
  ·have ih:=ziJ h n h1;have hl:=(j5.1 ih).1;cases Z:zb m l (n:Int)with
   |true=>rw[←zcD Z,wM,j6 hl];exact ih
   |false=>rw[←zez Z];exact ih
  ·have:k=n:=by omega
   subst this;rw[←zcD h];simp
def zow{p mi:List Int}(U:p.Pairwise (λa b=>a+1<b)):∀k,k<=p.length->∀(j:Nat)x,j<k->p[j]? =some x→
 mget x (zaE p mi k)=(if mi[j]? =some 2 then some ⟨3,2⟩else none)/\mget (x+1) (zaE p mi k)=(if mi[j]? =some 2 then some ⟨1,2⟩else none)
 |0,_,j,x,T,_=>by omega
 |k+1,hk,j,x,T,hx=>by
  obtain⟨y,Z⟩:∃y,p[k]? =some y:=⟨_,lgg (by omega)⟩
  have gap:∀(i:Nat),i<k->p.getD i 0+1<y:=λi hi=>by
   have h1:=uT.1 U i k (by omega) (by omega) hi;obtain⟨_,e⟩:=j5.1 Z;rw[e]at h1;rw[zcv (lgg (show i<p.length by omega))];exact h1
  by_cases V:j=k
  ·subst V;rw[Z]at hx;injection hx with hx;subst hx;unfold zaE;rw[zcv Z];split
   ·rw[zaq,zaq,zaq,j7 (by omega),j6 rfl,j6 rfl];exact⟨rfl,rfl⟩
   ·constructor
    ·rcases zfa p mi y j with h|⟨i,h1,N⟩
     ·exact h
     ·have:=gap i h1;omega
    ·rcases zfa p mi (y+1) j with h|⟨i,h1,N⟩
     ·exact h
     ·have:=gap i h1;omega
  ·have ih:=zow (mi:=mi) U k (by omega) j x (by omega) hx;have g:=gap j (by omega);rw[zcv hx]at g;unfold zaE;rw[zcv Z];split
   ·have n1:¬y+1=x:=by omega
    have n2:¬y=x:=by omega
    have n3:¬y+1=x+1:=by omega
    have n4:¬y=x+1:=by omega
    simp only[zaq,j7 n1,j7 n2,j7 n3,j7 n4];exact ih
   ·exact ih
def zts{m:Mn}{l:List Sg}{mi:List Int}{k:Nat}(h1:zb m l (k:Int)=false)(V:∀j:Nat,j+1=k->zb m l (j:Int)=false):mget (k:Int) (duM m l mi)=none:=by
 unfold duM;rcases zfa (prL m l) mi (k:Int) (prL m l).length with h|⟨j,U,h⟩
 ·exact h
 ·exfalso;have hx:(prL m l)[j]? =some ((prL m l).getD j 0):=by rw[jD,lgg U];rfl
  have hm:=zti (j8 hx);rcases h with h|h
  ·rw[←h,h1]at hm;cases hm.1
  ·have Z:=V ((prL m l).getD j 0).toNat (by omega);rw[show((((prL m l).getD j 0).toNat:Nat):Int)=(prL m l).getD j 0 by omega,hm.1]at Z;cases Z
def zxy{l:List Sg}{k j:Nat}{s t:Sg}(hs:l[k]? =some s)(h:¬s.Kind=3)(ht:l[j]? =some t)(Z:¬t.Kind=3)(e:ntN l k=ntN l j):k=j:=by
 rcases Nat.lt_trichotomy k j with h1|h1|h1
 ·have:=ze8 hs h h1;omega
 ·exact h1
 ·have:=ze8 ht Z h1;omega
def iTM(m:Mn)(l:List Sg)(ch mi:List Int)(k:Nat)(s:Sg):Ite:=itOf k s (zaO ch l l.length k).1 (zaO ch l l.length k).2 ((mget (k:Int) (duM m l mi)).getD (bsT m s))
abbrev zlj(l:List Sg):Prop:=∀(i:Nat)z,l[i]? =some z->z.Kind=3->∃(j:Nat)(p:Sg),i=j+1/\l[j]? =some p/\¬p.Kind=3
def itm_len{m:Mn}{l:List Sg}{ch mi:List Int}(h1:mkE m l ch=0)(Z:duE m l mi=0):(itmV m l ch mi).length=ntN l l.length:=by
 rw[zhf (by unfold itmE;rw[j6 h1,Z]),zfQ]
def zxz{m:Mn}{l:List Sg}{ch mi:List Int}(h1:mkE m l ch=0)(U:duE m l mi=0)(J:zlj l){k:Nat}{s:Sg}(hs:l[k]? =some s)(V:¬s.Kind=3):(itmV m l ch mi)[ntN l k]? =some (iTM m l ch mi k s):=by
 have hk:=(j5.1 hs).1;have T:=ze8 hs V hk;obtain⟨x,hx⟩:∃x,(itmV m l ch mi)[ntN l k]? =some x:=⟨_,lgg (by rw[itm_len h1 U];exact T)⟩;have N:=hx;rw[zhf (by unfold itmE;rw[j6 h1,U])]at hx;obtain⟨j,t,hj,ht,H,hn,rfl⟩:=ziH l.length hx;obtain rfl:=zxy ht H hs V hn;rw[hs]at ht;injection ht with ht;subst ht;rw[N];unfold iTM;have Z:=zqI (ch:=ch) J l.length j s hk hs V;have G:(mkC m l ch).getD (ntN l j) 0=(zaO ch l l.length j).1:=zcv (by unfold mkC;rw[j6 h1];exact Z.1);have E:(mkA m l ch).getD (ntN l j) false=(zaO ch l l.length j).2:=zcv (by unfold mkA;rw[j6 h1];exact Z.2);have hd:(duV m l mi).getD (ntN l j) ⟨0,0⟩=(mget (j:Int) (duM m l mi)).getD (bsT m s):=zcv (by unfold duV;rw[j6 U];exact zk9 hs V l.length hk);rw[G,E,hd]
def zqR{m:Mn}{l:List Sg}{mi:List Int}(Z:duE m l mi=0):ckD m l=0/\mi.length=(zk m l l.length).length/\mnOk mi=true:=by
 unfold duE at Z;split at Z
 ·rename_i V;split at Z
  ·rename_i h;exact⟨V,by rw[h.1];unfold prL zad;rw[j6 V],h.2⟩
  ·cases Z
 ·rename_i V;exact absurd Z V
def zAl{m:Mn}{l:List Sg}(Z:ckD m l=0):prL m l=zk m l l.length:=by unfold prL zad;rw[j6 Z]
def ziK{m:Mn}{l:List Sg}{mi:List Int}(U:duE m l mi=0){k:Nat}(V:zb m l (k:Int)=true){y:Int}(T:mi[(zk m l k).length]? =some y):
 mget (k:Int) (duM m l mi)=(if y=2 then some ⟨3,2⟩else none)/\mget ((k+1:Nat):Int) (duM m l mi)=(if y=2 then some ⟨1,2⟩else none):=by
 have N:=zqR U;have hf:=zca V;have Z:=ziJ V l.length (by omega);unfold duM;rw[zAl N.1];have h:=zow (mi:=mi) (zhh (m:=m) (l:=l) l.length) _ (jE _) _ _ (j5.1 Z).1 Z;rw[T]at h;by_cases e:y=2
 ·subst e;rw[j6 rfl,j6 rfl];rw[j6 rfl,j6 rfl]at h;exact h
 ·rw[j7 e,j7 e];rw[j7 (λe2=>e (by injection e2)),j7 (λe2=>e (by injection e2))]at h;exact h
def pair_lt{m:Mn}{l:List Sg}{mi:List Int}(U:duE m l mi=0){k:Nat}(V:zb m l (k:Int)=true):(zk m l k).length<mi.length:=by
 have hf:=zca V;have Z:=ziJ V l.length (by omega);rw[(zqR U).2.1];exact(j5.1 Z).1
def zox{m:Mn}{l:List Sg}{k:Nat}(Z:zb m l (k:Int)=true):∃s t,l[k]? =some s/\l[k+1]? =some t/\clr s=true/\clr t=true/\s.Kind=1/\t.Kind=1/\s.Value=4/\t.Value=5/\(∀z,l[k+2]? =some z->¬z.Kind=3):=by
 have hf:=zca Z;have hl:k+1<l.length:=by omega
 have g:∀i:Nat,i<l.length->l[i]? =some (l.getD i default):=λi hi=>by rw[jD,lgg hi];rfl
 have e1:((k:Int)+1).toNat=k+1:=by omega
 rw[wN,e1]at hf;have kk:∀s:Sg,clr s=true->s.Kind=1:=λs h=>by unfold clr at h;simp at h;exact h.1
 refine⟨_,_,g k (by omega),g (k+1) hl,hf.2.1,hf.2.2.2.1,kk _ hf.2.1,kk _ hf.2.2.2.1,hf.2.2.1,hf.2.2.2.2,λz V U=>?_⟩;unfold zb zau at Z;simp only[jA,w4,wL,uW,w5]at Z;have h:=Z.2.1.1.2;have e2:((k:Int)+2).toNat=k+2:=by omega
 rw[e2,zcv V]at h;have:=(j5.1 V).1;rcases h with h|h
 ·omega
 ·exact h U
def nxt{l:List Sg}(N:zlj l){k:Nat}{s:Sg}(hs:l[k]? =some s)(J:¬s.Kind=3)(hn:ntN l k+1<ntN l l.length):
 (∃t,l[k+1]? =some t/\¬t.Kind=3/\ntN l (k+1)=ntN l k+1)\/(∃z t,l[k+1]? =some z/\z.Kind=3/\l[k+2]? =some t/\¬t.Kind=3/\ntN l (k+2)=ntN l k+1):=by
 have e:=zk6 hs J;have hk:k+1<l.length:=zv8 (l:=l) (by omega);have ht:l[k+1]? =some l[k+1]:=lgg hk;by_cases h:(l[k+1]).Kind=3
 ·have e2:=ztd ht h;have U:k+1+1<l.length:=zv8 (l:=l) (by omega);have Z:l[k+2]? =some l[k+2]:=lgg U;refine .inr ⟨_,_,ht,h,Z,λH=>?_,by rw[show k+2=k+1+1 by omega,e2];omega⟩;obtain⟨j,p,G,V,T⟩:=N _ _ Z H;have:j=k+1:=by omega
  subst this;rw[ht]at V;injection V with V;rw[V]at h;exact T h
 ·exact .inl ⟨_,ht,h,e⟩
section
variable{m:Mn}{l:List Sg}{a b d g:List Int}{k:Nat}{s:Sg}
end
end
section
section
variable{m:Mn}{l:List Sg}
end
def znw{m:Mn}{I:List Ite}(h0:ckM m=0)(h1:ckIE I=0)(h:leE m I=0):∀n,n<=(perfL m).length->LvJ m (perfL m) I n
 |0,_=>zrG m _ I
 |n+1,hn=>by
  have ih:=znw h0 h1 h n (by omega);have hk:(perfL m)[n]? =some ((perfL m)[n]'(by omega)):=lgg (by omega);refine ih.s hk (jV λhe=>?_);have:=(zyn h0 h1 ih hk he).1;rw[h]at this;exact he this.symm
def zxA{m:Mn}{I:List Ite}(h0:ckM m=0)(h1:ckIE I=0)(h:leE m I=0):(lvN m (perfL m) I (perfL m).length).1=leC m I/\(lvN m (perfL m) I (perfL m).length).2=leI m I:=
 (zyo h0 h1 (znw h0 h1 h (perfL m).length (jE _)) rfl).2
def zAm{m:Mn}{I:List Ite}(h:leE m I=0):ckM m=0/\ckIE I=0:=by
 have h0:ckM m=0:=jV λZ=>Z ((zyl Z).1.symm.trans h)
 exact⟨h0,jV λZ=>Z ((zym h0 Z).1.symm.trans h)⟩
def ztt(m:Mn)(I:List Ite):(leC m I).length<=4*(2*I.length+2):=by
 by_cases h:leE m I=0
 ·obtain⟨Z,hI⟩:=zAm h;rw[←(zxA Z hI h).1];have h1:=(znw Z hI h (perfL m).length (jE _)).cho;have V:=jX (2*I.length+2) (zif m);omega
 ·unfold leC;rw[j7 h];simp
def zqS(m:Mn){l:List Sg}(hl:l.length<=1000):(rdV m l).Dots.length<=1000/\(rdV m l).Minor.length<=1000/\(rdV m l).Choices.length<=10000/\(rdV m l).Durs.length<=1000:=by
 have Z:(zi m l).length<=1000:=by have:=zgw m l;have:=ztk m l;omega
 have V:(twos (prL m l).length).length<=1000:=by rw[zcc];have:=zdZ m l;omega
 have U:=ztt m (rdI m l);have hi:=zh9 (m:=m) (l:=l);have T:=zov (m:=m) (l:=l);refine⟨?_,?_,?_,by omega⟩
 ·unfold rdV;split
  ·exact Z
  ·simp
 ·unfold rdV;split
  ·exact V
  ·simp
 ·unfold rdV;split
  ·show(leC m (rdI m l)).length<=_;omega
  ·simp
end
end Go.Rse
