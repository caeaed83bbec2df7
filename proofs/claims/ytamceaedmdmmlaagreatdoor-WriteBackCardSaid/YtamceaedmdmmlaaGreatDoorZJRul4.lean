/-
  Walks.
-/
import Derived.Test.YtamceaedmdmmlaaGreatDoorZJRul2
set_option linter.all false
set_option maxHeartbeats 4000000
namespace Go.Rse
open Go Go.Proofs Go.Proofs.Tryz
attribute [local irreducible] Pur yy yz Ex X Fn Imp LeV LeB FnO It yH FnW FnOW FnP
section
attribute [local irreducible] cuV cuE apV apE leE leC leI lvN lvF ckM perfL ckIE ckIX
def zi1(m:Mn)(l:List Ite)(C:List Int):FnO prog 108 [.ptr 2000000 0 0 0] [(2000000,.box [iv m.Max,iv m.Mod,iv m.Tem,iv m.Pro,yc [],itsA l,.own 2000001] 177),(2000001,.row intE (C) 3 1)] [2000000,2000001] (.nilf) [(2000000,.box [iv m.Max,iv m.Mod,iv m.Tem,iv m.Pro,yc [],itsA l,.own 2000001] 177),(2000001,.row intE (C) 3 1)]:=by
 refine bH (ts:=[(0,.ptr 2000000 0 0 0)]) (rv:=[.tmp 2]) (n:=75) (cs:=[.ptr 2000000 0 0 0,.own 2000001]) (by kernel_rfl) func108 rfl ntmps108 rfl rfl (by simp) rfl rfl rfl rfl (λg w d vs=>?_);apply ye;refine yj ?_;apply yh;apply ye;refine ya ?_;refine ya ?_ (hs:=by exact yi rfl);refine gd ?_ ?_<;>intro Z
 ·apply ye;refine yj ?_;refine kQ ?_;refine zkW.mk [(2,.nilf)] [] (.inr rfl) (.one (.tmp rfl (kO ?_)));all_goals rfl
 exact absurd rfl Z
def zh0(m:Mn)(l:List Ite)(C:List Int)(k:Int)(r:List Int)(hk:1<=k/\k<=4)(hl:l.length<=1000)(J:C.length<=1000000)(h0:¬cuE m k l=0):FnP prog 108 [.ptr 2000000 0 0 0] [(2000000,.box [iv m.Max,iv m.Mod,iv m.Tem,iv m.Pro,yc (k::r),itsA l,.own 2000001] 177),(2000001,.row intE (C) 3 1)] [2000000,2000001] (ifV 172 .i64 (cuE m k l)) [(2000000,.box [iv m.Max,iv m.Mod,iv m.Tem,iv m.Pro,yc r,itsA l,.own 2000001] 177),(2000001,.row intE (C) 3 1)]:=by
 have T:(k::r)[(0:Int).toNat]? =some k:=rfl;have U:=hk.1;have N:=zie (m:=m) (k:=k) (l:=l);refine FnP.intro (ts:=[(0,.ptr 2000000 0 0 0)]) (n:=75) (cs:=[.ptr 2000000 0 0 0,.own 2000001]) (by kernel_rfl) func108 rfl ntmps108 rfl (by simp) rfl rfl rfl rfl (λg w d vs=>?_);apply ye;refine yj ?_;apply yh;apply ye;refine ya ?_;refine ya ?_ (hs:=by exact yi rfl);refine gd ?_ ?_<;>intro Z
 ·exact absurd Z (by simp;omega)
 apply yk;apply ye;refine ya ?_;refine ya ?_ (hs:=by exact yi rfl);iterate 5 refine ya ?_
 apply yE;iterate 2 refine ya ?_
 refine ya ?_ (hs:=by exact yi rfl);refine gq ?_
 first
  |refine zo (zx rfl rfl rfl sl22 ty3 (by omega) (by omega)) rfl ?_
  |refine zo (zY rfl rfl sl22 ty3 (λ_=>rfl) (by omega) (by omega)) rfl ?_
 refine ya ?_ (hs:=by exact yi rfl);refine gq ?_;refine yW [4,5,26,27,28,29,30,31,32,33,34,35,36,37,38] [0,1,3,7,0,0,32,96,224,511,1023,2047,2047,4095,16383] mo ?_;refine yb ?_;refine yb ?_ (hs:=by exact yi rfl);iterate 4 refine yb ?_
 refine yb ?_ (hs:=by exact yi rfl);iterate 2 refine yb ?_
 refine yO (zfH m k l (by omega) (by omega) (by omega)) ?_;iterate 5 refine yb ?_
 refine yI ?_;refine gd ?_ ?_<;>intro V
 ·(refine yf ?_;refine ya ?_;refine ya ?_;refine ya (hs:=by exact zl7 rfl ⟨_,Tryz.underlying172⟩) ?_;refine Ex.panic ?_;exact zww.mk)
 exact absurd V h0
def zj2(m:Mn)(l:List Ite)(C:List Int)(k:Int)(r:List Int)(hk:1<=k/\k<=4)(hl:l.length<=1000)(hC:C.length<=1000000)(h0:cuE m k l=0):FnO prog 108 [.ptr 2000000 0 0 0] [(2000000,.box [iv m.Max,iv m.Mod,iv m.Tem,iv m.Pro,yc (k::r),itsA l,.own 2000001] 177),(2000001,.row intE (C) 3 1)] [2000000] (.fn 108 []) [(2000000,.box [iv m.Max,iv m.Mod,iv m.Tem,iv m.Pro,yc r,itsA (apV m k l (cuV m k l)),.own 2000012] 177),(2000012,.row intE (C++(cuV m k l)) 3 1)]:=by
 have H:(k::r)[(0:Int).toNat]? =some k:=rfl;have J:=hk.1;have G:=zie (m:=m) (k:=k) (l:=l);have V:=zkn h0;refine bH (ts:=[(0,.ptr 2000000 0 0 0)]) (rv:=[.tmp 2]) (n:=75) (cs:=[.ptr 2000000 0 0 0]) (by kernel_rfl) func108 rfl ntmps108 rfl rfl (by simp) rfl rfl rfl rfl (λg w d vs=>?_);apply ye;refine yj ?_;apply yh;apply ye;refine ya ?_;refine ya ?_ (hs:=by exact yi rfl);refine gd ?_ ?_<;>intro U
 ·exact absurd U (by simp;omega)
 apply yk;apply ye;refine ya ?_;refine ya ?_ (hs:=by exact yi rfl);iterate 5 refine ya ?_
 apply yE;iterate 2 refine ya ?_
 refine ya ?_ (hs:=by exact yi rfl);refine gq ?_
 first
  |refine zo (zx rfl rfl rfl sl22 ty3 (by omega) (by omega)) rfl ?_
  |refine zo (zY rfl rfl sl22 ty3 (λ_=>rfl) (by omega) (by omega)) rfl ?_
 refine ya ?_ (hs:=by exact yi rfl);refine gq ?_;refine yW [4,5,26,27,28,29,30,31,32,33,34,35,36,37,38] [0,1,3,7,0,0,32,96,224,511,1023,2047,2047,4095,16383] mo ?_;refine yb ?_;refine yb ?_ (hs:=by exact yi rfl);iterate 4 refine yb ?_
 refine yb ?_ (hs:=by exact yi rfl);iterate 2 refine yb ?_
 refine yO (zfH m k l (by omega) (by omega) (by omega)) ?_;iterate 5 refine yb ?_
 refine yI ?_;refine gd ?_ ?_<;>intro T
 ·exact absurd h0 T
 refine gq ?_;refine bI [⟨0,45,.ptr 2000000 0 0 0,[]⟩,⟨1,46,.ptr 2000000 0 0 0,[]⟩,⟨2,47,.ptr 2000000 0 0 0,[1]⟩,⟨3,48,.ptr 2000000 0 0 (0+0),[1,2]⟩,⟨4,49,mnA m,[1,2,3]⟩,⟨5,50,iv k,[]⟩,⟨6,51,.ptr 2000000 0 0 0,[]⟩,⟨7,52,.ptr 2000000 0 0 0,[6]⟩,⟨8,53,.ptr 2000000 0 0 (0+5),[6,7]⟩,⟨9,54,itsA l,[6,7,8]⟩,⟨10,55,yc (cuV m k l),[]⟩,⟨12,44,.tup [itsA (apV m k l (cuV m k l)),iv (apE m k l (cuV m k l))],[6,1,7,2,8,3,10,9,5,4,11]⟩,⟨13,57,itsA (apV m k l (cuV m k l)),[6,1,7,2,8,3,10,9,5,4,11,12]⟩,⟨14,58,iv (apE m k l (cuV m k l)),[6,1,7,2,8,3,10,9,5,4,11,12]⟩,⟨15,59,.ptr 2000000 0 0 0,[13,12,11,10,9,8,7,6,5,4,3,2,1,0]⟩,⟨16,60,.ptr 2000000 0 0 (0+5),[13,12,11,10,9,8,7,6,5,4,3,2,1,0,15]⟩] [(11,[6,1,7,2,8,3,10,9,5,4]),(17,[15,12,10,9,8,7,6,5,4,3,2,1,0,11,13,16]),(18,[16,15,13,12,11,10,9,8,7,6,5,4,3,2,1,0,17,14])] (λj=>match j with|0=>⟨[(0,.ptr 2000000 0 0 0),(3,iv k),(4,yc (cuV m k l))],[(1000001,.hold vs [.ptr 2000000 0 0 0]),(2000000,.box [iv m.Max,iv m.Mod,iv m.Tem,iv m.Pro,yc r,itsA l,.own 2000001] 177),(2000001,.row intE (C) 3 1)]⟩|1=>⟨[(0,.ptr 2000000 0 0 0),(3,iv k),(4,yc (cuV m k l)),(56,.tup [itsA (apV m k l (cuV m k l)),iv (apE m k l (cuV m k l))])],[(1000001,.hold vs [.ptr 2000000 0 0 0]),(2000000,.box [iv m.Max,iv m.Mod,iv m.Tem,iv m.Pro,yc r,itsA l,.own 2000001] 177),(2000001,.row intE (C) 3 1)]⟩|2=>⟨[(0,.ptr 2000000 0 0 0),(3,iv k),(4,yc (cuV m k l)),(56,.tup [itsA (apV m k l (cuV m k l)),iv (apE m k l (cuV m k l))])],[(1000001,.hold vs [.ptr 2000000 0 0 0]),(2000000,.box [iv m.Max,iv m.Mod,iv m.Tem,iv m.Pro,yc r,itsA (apV m k l (cuV m k l)),.own 2000001] 177),(2000001,.row intE (C) 3 1)]⟩|_=>⟨[(0,.ptr 2000000 0 0 0),(3,iv k),(4,yc (cuV m k l)),(56,.tup [itsA (apV m k l (cuV m k l)),iv (apE m k l (cuV m k l))]),(5,iv (apE m k l (cuV m k l)))],[(1000001,.hold vs [.ptr 2000000 0 0 0]),(2000000,.box [iv m.Max,iv m.Mod,iv m.Tem,iv m.Pro,yc r,itsA (apV m k l (cuV m k l)),.own 2000001] 177),(2000001,.row intE (C) 3 1)]⟩) mo (by kernel_rfl) (zj (yd)) (λj E=>?_) (λj c Z β hβ=>?_) ?_
 ·rcases j with _|_|_|_|j
  ·exact yF
  ·exact yF
  ·exact yF
  ·exact yF
  ·exact absurd (show j+4<=3 from E) (by omega)
 ·rcases j with _|_|_|j
  ·obtain rfl:(11,[6,1,7,2,8,3,10,9,5,4])=c:=by injection Z
   refine yp rfl (yn (st0:=⟨[(45,.ifb (β 0) (.ptr 2000000 0 0 0)),(46,.ptr 2000000 0 0 0),(47,.ptr 2000000 0 0 0),(48,.ptr 2000000 0 0 (0+0)),(49,mnA m),(50,iv k),(51,.ptr 2000000 0 0 0),(52,.ptr 2000000 0 0 0),(53,.ptr 2000000 0 0 (0+5)),(54,itsA l),(55,yc (cuV m k l)),(44,.ifb (β 12) (.tup [itsA (apV m k l (cuV m k l)),iv (apE m k l (cuV m k l))])),(57,.ifb (β 13) (itsA (apV m k l (cuV m k l)))),(58,.ifb (β 14) (iv (apE m k l (cuV m k l)))),(59,.ifb (β 15) (.ptr 2000000 0 0 0)),(60,.ifb (β 16) (.ptr 2000000 0 0 (0+5))),(0,.ptr 2000000 0 0 0),(3,iv k),(4,yc (cuV m k l))],[(1000001,.hold vs [.ptr 2000000 0 0 0]),(2000000,.box [iv m.Max,iv m.Mod,iv m.Tem,iv m.Pro,yc r,itsA l,.own 2000001] 177),(2000001,.row intE (C) 3 1)]⟩) (ym) ?_);refine yz.imp (yL (z7 rfl rfl rfl (bC _) (zjW m k l (cuV m k l) (by omega) (by omega) (by omega) (by omega))) rfl rfl) (ym)
  ·obtain rfl:(17,[15,12,10,9,8,7,6,5,4,3,2,1,0,11,13,16])=c:=by injection Z
   refine yp rfl (yn (st0:=⟨[(45,.ptr 2000000 0 0 0),(46,.ptr 2000000 0 0 0),(47,.ptr 2000000 0 0 0),(48,.ptr 2000000 0 0 (0+0)),(49,mnA m),(50,iv k),(51,.ptr 2000000 0 0 0),(52,.ptr 2000000 0 0 0),(53,.ptr 2000000 0 0 (0+5)),(54,itsA l),(55,yc (cuV m k l)),(44,.tup [itsA (apV m k l (cuV m k l)),iv (apE m k l (cuV m k l))]),(57,itsA (apV m k l (cuV m k l))),(58,.ifb (β 14) (iv (apE m k l (cuV m k l)))),(59,.ptr 2000000 0 0 0),(60,.ptr 2000000 0 0 (0+5)),(0,.ptr 2000000 0 0 0),(3,iv k),(4,yc (cuV m k l)),(56,.tup [itsA (apV m k l (cuV m k l)),iv (apE m k l (cuV m k l))])],[(1000001,.hold vs [.ptr 2000000 0 0 0]),(2000000,.box [iv m.Max,iv m.Mod,iv m.Tem,iv m.Pro,yc r,itsA l,.own 2000001] 177),(2000001,.row intE (C) 3 1)]⟩) (ym) ?_);refine yz.imp (zU rfl rfl rfl rfl TyK.h (by simp)) (ym)
  ·obtain rfl:(18,[16,15,13,12,11,10,9,8,7,6,5,4,3,2,1,0,17,14])=c:=by injection Z
   refine yp rfl (yn (st0:=⟨[(45,.ptr 2000000 0 0 0),(46,.ptr 2000000 0 0 0),(47,.ptr 2000000 0 0 0),(48,.ptr 2000000 0 0 (0+0)),(49,mnA m),(50,iv k),(51,.ptr 2000000 0 0 0),(52,.ptr 2000000 0 0 0),(53,.ptr 2000000 0 0 (0+5)),(54,itsA l),(55,yc (cuV m k l)),(44,.tup [itsA (apV m k l (cuV m k l)),iv (apE m k l (cuV m k l))]),(57,itsA (apV m k l (cuV m k l))),(58,iv (apE m k l (cuV m k l))),(59,.ptr 2000000 0 0 0),(60,.ptr 2000000 0 0 (0+5)),(0,.ptr 2000000 0 0 0),(3,iv k),(4,yc (cuV m k l)),(56,.tup [itsA (apV m k l (cuV m k l)),iv (apE m k l (cuV m k l))])],[(1000001,.hold vs [.ptr 2000000 0 0 0]),(2000000,.box [iv m.Max,iv m.Mod,iv m.Tem,iv m.Pro,yc r,itsA (apV m k l (cuV m k l)),.own 2000001] 177),(2000001,.row intE (C) 3 1)]⟩) (ym) ?_);refine yz.imp (yL (kK yK) rfl rfl) (ym)
  ·exact absurd Z (by simp)
 refine gd ?_ ?_<;>intro N
 ·exact absurd V N
 apply yk;apply ye;iterate 2 refine ya ?_
 refine ya ?_ (hs:=by exact yi rfl);iterate 3 refine ya ?_
 refine kV ?_;refine ya ?_ (hs:=by exact yi rfl);refine ya ?_;refine kV ?_;apply yE;refine yj ?_;refine kQ ?_;refine zc9 (bN 2000001 2000012 rfl rfl) ?_;refine zkW.mk [(2,.fn 108 [])] [] (.inr rfl) (.one (.tmp rfl (kO ?_)));all_goals rfl
end
section
def zgP(A:List Int)(B:List Ite):FnD prog 106 [.ptr 2000004 0 0 0,.ptr 2000005 0 0 0,.ptr 2000006 0 0 0] [(2000004,.box [yc A] 22),(2000005,.box [itsA B] 123),(2000006,.box [iv 0] 31)] [2000004,2000005,2000006] (.returning) (.returning) [(2000004,.box [yc A] 22),(2000005,.box [itsA B] 123),(2000006,.box [iv 0] 31)]:=by
 refine FnD.intro (ts:=[(0,.ptr 2000004 0 0 0),(1,.ptr 2000005 0 0 0),(2,.ptr 2000006 0 0 0)]) (n:=19) (cs:=[.ptr 2000004 0 0 0,.ptr 2000005 0 0 0,.ptr 2000006 0 0 0]) (by kernel_rfl) func106 rfl ntmps106 rfl (by simp) rfl (by simp) rfl rfl rfl (λg w d vs=>?_);refine XS.seq ?_;refine XS.recover rfl rfl (v:=.nilIface) (.inl ⟨rfl,rfl,rfl⟩) ?_;refine XS.of ?_;apply ye;refine ya ?_;refine ya (hs:=by exact zjL ⟨_,Tryz.underlying20⟩ rfl) ?_;refine gd ?_ ?_<;>intro Z
 ·cases Z
 apply yk;exact⟨rfl,.inl rfl,[],[],yd⟩
def zgQ(e:Int):FnD prog 106 [.ptr 2000004 0 0 0,.ptr 2000005 0 0 0,.ptr 2000006 0 0 0] [(2000004,.box [.nils] 22),(2000005,.box [.nils] 123),(2000006,.box [iv 0] 31)] [2000004,2000005,2000006] (.panicking [{v:=ifV 172 .i64 e,recovered:=false}]) (.panicking [{v:=ifV 172 .i64 e,recovered:=true}]) [(2000004,.box [.nils] 22),(2000005,.box [.nils] 123),(2000006,.box [iv e] 31)]:=by
 refine FnD.intro (ts:=[(0,.ptr 2000004 0 0 0),(1,.ptr 2000005 0 0 0),(2,.ptr 2000006 0 0 0)]) (n:=19) (cs:=[.ptr 2000004 0 0 0,.ptr 2000005 0 0 0,.ptr 2000006 0 0 0]) (by kernel_rfl) func106 rfl ntmps106 rfl (by simp) rfl (by simp) rfl rfl rfl (λg w d vs=>?_);refine XS.seq ?_;refine XS.recover rfl rfl (v:=ifV 172 .i64 e) (.inr ⟨[],rfl,rfl⟩) ?_;refine XS.of ?_;apply ye;refine ya ?_;refine ya (hs:=by exact znd ⟨_,Tryz.underlying20⟩ rfl) ?_;refine gd ?_ ?_<;>intro V
 ·apply ye;refine ya ?_;refine ya (hs:=by exact zkb rfl ⟨_,Tryz.underlying172⟩) ?_;refine gd ?_ ?_<;>intro U
  ·cases U
  apply yk;refine bI [⟨0,17,.ptr 4 0 0 (0+0),[]⟩,⟨1,18,iv e,[0]⟩] [(2,[]),(3,[2]),(4,[2,0,3,1])] (λj=>match j with|0=>⟨[(0,.ptr 2000004 0 0 0),(1,.ptr 2000005 0 0 0),(2,.ptr 2000006 0 0 0),(4,.ptr 4 0 0 0)],[(1000001,.hold vs [.ptr 2000004 0 0 0,.ptr 2000005 0 0 0,.ptr 2000006 0 0 0]),(2000004,.box [.nils] 22),(2000005,.box [.nils] 123),(2000006,.box [iv 0] 31),(4,.box [iv e] 172)]⟩|1=>⟨[(0,.ptr 2000004 0 0 0),(1,.ptr 2000005 0 0 0),(2,.ptr 2000006 0 0 0),(4,.ptr 4 0 0 0)],[(1000001,.hold vs [.ptr 2000004 0 0 0,.ptr 2000005 0 0 0,.ptr 2000006 0 0 0]),(2000004,.box [.nils] 22),(2000005,.box [.nils] 123),(2000006,.box [iv 0] 31),(4,.box [iv e] 172)]⟩|2=>⟨[(0,.ptr 2000004 0 0 0),(1,.ptr 2000005 0 0 0),(2,.ptr 2000006 0 0 0),(4,.ptr 4 0 0 0)],[(1000001,.hold vs [.ptr 2000004 0 0 0,.ptr 2000005 0 0 0,.ptr 2000006 0 0 0]),(2000004,.box [.nils] 22),(2000005,.box [.nils] 123),(2000006,.box [iv 0] 31),(4,.box [iv e] 172)]⟩|_=>⟨[(0,.ptr 2000004 0 0 0),(1,.ptr 2000005 0 0 0),(2,.ptr 2000006 0 0 0),(4,.ptr 4 0 0 0)],[(1000001,.hold vs [.ptr 2000004 0 0 0,.ptr 2000005 0 0 0,.ptr 2000006 0 0 0]),(2000004,.box [.nils] 22),(2000005,.box [.nils] 123),(2000006,.box [iv e] 31),(4,.box [iv e] 172)]⟩) mo (by kernel_rfl) (zj (yd)) (λj T=>?_) (λj c Z β hβ=>?_) ?_
  ·rcases j with _|_|_|_|j
   ·exact yF
   ·exact yF
   ·exact yF
   ·exact yF
   ·exact absurd (show j+4<=3 from T) (by omega)
  ·rcases j with _|_|_|j
   ·obtain rfl:(2,[])=c:=by injection Z
    refine yp rfl (yn (st0:=⟨[(17,.ifb (β 0) (.ptr 4 0 0 (0+0))),(18,.ifb (β 1) (iv e)),(0,.ptr 2000004 0 0 0),(1,.ptr 2000005 0 0 0),(2,.ptr 2000006 0 0 0),(4,.ptr 4 0 0 0)],[(1000001,.hold vs [.ptr 2000004 0 0 0,.ptr 2000005 0 0 0,.ptr 2000006 0 0 0]),(2000004,.box [.nils] 22),(2000005,.box [.nils] 123),(2000006,.box [iv 0] 31),(4,.box [iv e] 172)]⟩) (ym) ?_);refine yz.imp (zU rfl rfl rfl rfl TyK.h (by simp)) (ym)
   ·obtain rfl:(3,[2])=c:=by injection Z
    refine yp rfl (yn (st0:=⟨[(17,.ifb (β 0) (.ptr 4 0 0 (0+0))),(18,.ifb (β 1) (iv e)),(0,.ptr 2000004 0 0 0),(1,.ptr 2000005 0 0 0),(2,.ptr 2000006 0 0 0),(4,.ptr 4 0 0 0)],[(1000001,.hold vs [.ptr 2000004 0 0 0,.ptr 2000005 0 0 0,.ptr 2000006 0 0 0]),(2000004,.box [.nils] 22),(2000005,.box [.nils] 123),(2000006,.box [iv 0] 31),(4,.box [iv e] 172)]⟩) (ym) ?_);refine yz.imp (zU rfl rfl rfl rfl TyK.h (by simp)) (ym)
   ·obtain rfl:(4,[2,0,3,1])=c:=by injection Z
    refine yp rfl (yn (st0:=⟨[(17,.ptr 4 0 0 (0+0)),(18,iv e),(0,.ptr 2000004 0 0 0),(1,.ptr 2000005 0 0 0),(2,.ptr 2000006 0 0 0),(4,.ptr 4 0 0 0)],[(1000001,.hold vs [.ptr 2000004 0 0 0,.ptr 2000005 0 0 0,.ptr 2000006 0 0 0]),(2000004,.box [.nils] 22),(2000005,.box [.nils] 123),(2000006,.box [iv 0] 31),(4,.box [iv e] 172)]⟩) (ym) ?_);refine yz.imp (zU rfl rfl rfl rfl TyK.h (by simp)) (ym)
   ·exact absurd Z (by simp)
  exact⟨rfl,.inl rfl,[],[],yd⟩
 ·cases V
end
end Go.Rse
namespace Go.Rse
open Go Go.RowKit Go.Proofs.Tryz
section
variable{P:Program}{C:Ctx}{st:St}{ty:TypeId}{Q:Exit->St->Prop}
def zqg{T:TypeId}{x:Operand}{yt:TypeId}{f:FuncId}{cs:List AV}(Z:∃a b c,P.underlying T=some (.func a b c))(hx:ev st x=some (.fn f cs)):Pur P C (.binOp .neq T x (.const .nilFunc) yt) ty st (.bool true):=λg a w dst pos af gd hr=>by
 obtain⟨us,e,_,_⟩:=zcY (yA hr hx);have e0:a.eval (.const .nilFunc)=.nilFunc:=rfl;refine⟨.bool true,?_,.bool _⟩;obtain⟨p,q,r,Z⟩:=Z;have V:(eqGuard .neq T x (.const .nilFunc) (.func (.func f) #[] us.toArray) .nilFunc).run P w=.ok () w:=by unfold eqGuard;simp
 have h1:(Op.equal T (.func (.func f) #[] us.toArray) .nilFunc).run P w=.ok false w:=by
  unfold Op.equal;rw[show Op.maxDepth=9999+1 from rfl];unfold Op.equalIn;simp[run_underlying Z]
 simp only[execOp,e,e0,jP,V,jI,binOp,h1,jU];rfl
def znM{T:TypeId}{x:Operand}{yt:TypeId}(Z:∃a b c,P.underlying T=some (.func a b c))(hx:ev st x=some .nilf):Pur P C (.binOp .neq T x (.const .nilFunc) yt) ty st (.bool false):=λg a w dst pos af gd hr=>by
 have e:=zg2 (yA hr hx);have e0:a.eval (.const .nilFunc)=.nilFunc:=rfl;refine⟨.bool false,?_,.bool _⟩;obtain⟨p,q,r,Z⟩:=Z;have V:(eqGuard .neq T x (.const .nilFunc) .nilFunc .nilFunc).run P w=.ok () w:=by unfold eqGuard;simp
 have h1:(Op.equal T .nilFunc .nilFunc).run P w=.ok true w:=by
  unfold Op.equal;rw[show Op.maxDepth=9999+1 from rfl];unfold Op.equalIn;simp[run_underlying Z]
 simp only[execOp,e,e0,jP,V,jI,binOp,h1,jU];rfl
def zAX{ι:Type}{c:Code}(I:ι->List (Nat×AV))(H:ι->List (Nat×Blk))(J:ι->Prop)(μ:ι->Nat)(i0:ι)(IB:ι->List (Nat×AV))(HB:ι->List (Nat×Blk))(JB:ι->Prop)
 (Z:∀i,JB i->X P C c ⟨IB i,HB i⟩ (zdK (λ_=>False) Q))
 (h:∀i,J i->X P C c ⟨I i,H i⟩ (zdK (λst'=>(∃i',Imp C st' ⟨I i',H i'⟩/\J i'/\μ i'<μ i)\/(∃i',Imp C st' ⟨IB i',HB i'⟩/\JB i')) Q))
 (hJ:J i0)(h0:Imp C st ⟨I i0,H i0⟩):X P C (.loop c) st Q:=by
 refine X.loop (λs:ι⊕ι=>(⟨Sum.elim I IB s,Sum.elim H HB s⟩:St)) (Sum.elim J JB) (Sum.elim (λi=>μ i+1) (λ_=>0)) (.inl i0) h0 hJ (λs hs=>?_);cases s with
 |inl i=>
  intro g a w hr;refine wpIn_mono (h i hs g a w hr) ?_
  rintro e a w⟨st,g,hr,q⟩
  refine⟨st,g,hr,?_⟩;cases e
  case normal=>
   rcases q with⟨i',q1,q2,q3⟩|⟨i',q1,q2⟩
   ·exact⟨.inl i',q1,q2,Nat.succ_lt_succ q3⟩
   ·exact⟨.inr i',q1,q2,Nat.succ_pos _⟩
  all_goals exact q
 |inr i=>
  intro g a w hr;refine wpIn_mono (Z i hs g a w hr) ?_
  rintro e a w⟨st,g,hr,q⟩
  refine⟨st,g,hr,?_⟩;cases e
  case normal=>exact q.elim
  all_goals exact q
end
end Go.Rse
namespace Go.Rse
open Go Go.Proofs Go.Proofs.Tryz
section
attribute [local irreducible] Pur yy yz Ex X Fn Imp LeV LeB FnO It yH FnW FnOW FnP FnD
attribute [local irreducible] cuV cuE apV apE leE leC leI lvN lvF ckM perfL ckIE ckIX
def zj3(m:Mn)(l:List Ite)(hl:l.length<=1000):Fn prog 63 [mnA m,itsA l] (.tup [yc (leC m l),itsA (leI m l),iv (leE m l)]):=by
 have x3:=zif m;refine zkN (ts:=[(0,mnA m),(1,itsA l)]) (n:=48) (by kernel_rfl) func63 rfl ntmps63 rfl rfl (by simp) (λg w d=>?_);refine XW.seq ?_;apply yf;refine zz ?_;iterate 3 refine za ?_
 apply kW;refine XW.seq ?_;refine gq ?_;refine yR (zdl m) ?_;iterate 4 refine ya ?_
 refine kV ?_;apply kW;refine XW.seq ?_;refine gd ?_ ?_<;>intro x2
 ·have x1:=zyl (l:=l) x2;obtain⟨hE,V,U⟩:=x1;apply yh;refine bI [⟨0,19,iv (ckM m),[]⟩] [(1,[]),(2,[1]),(3,[1,2,0])] (λj=>match j with|0=>⟨[(4,.ptr 4 0 0 0),(5,.ptr 5 0 0 0),(6,.ptr 6 0 0 0)],[(4,.box [.nils] 22),(5,.box [.nils] 123),(6,.box [iv (ckM m)] 31)]⟩|1=>⟨[(4,.ptr 4 0 0 0),(5,.ptr 5 0 0 0),(6,.ptr 6 0 0 0)],[(4,.box [.nils] 22),(5,.box [.nils] 123),(6,.box [iv (ckM m)] 31)]⟩|2=>⟨[(4,.ptr 4 0 0 0),(5,.ptr 5 0 0 0),(6,.ptr 6 0 0 0)],[(4,.box [.nils] 22),(5,.box [.nils] 123),(6,.box [iv (ckM m)] 31)]⟩|_=>⟨[(4,.ptr 4 0 0 0),(5,.ptr 5 0 0 0),(6,.ptr 6 0 0 0)],[(4,.box [.nils] 22),(5,.box [.nils] 123),(6,.box [iv (ckM m)] 31)]⟩) mo (by kernel_rfl) (zj (yd)) (λj T=>?_) (λj c Z β hβ=>?_) ?_
  ·rcases j with _|_|_|_|j
   ·exact yF
   ·exact yF
   ·exact yF
   ·exact yF
   ·exact absurd (show j+4<=3 from T) (by omega)
  ·rcases j with _|_|_|j
   ·obtain rfl:(1,[])=c:=by injection Z
    refine yp rfl (yn (st0:=⟨[(19,.ifb (β 0) (iv (ckM m))),(4,.ptr 4 0 0 0),(5,.ptr 5 0 0 0),(6,.ptr 6 0 0 0)],[(4,.box [.nils] 22),(5,.box [.nils] 123),(6,.box [iv (ckM m)] 31)]⟩) (ym) ?_);refine yz.imp (zU rfl rfl rfl rfl TyK.h (by simp)) (ym)
   ·obtain rfl:(2,[1])=c:=by injection Z
    refine yp rfl (yn (st0:=⟨[(19,.ifb (β 0) (iv (ckM m))),(4,.ptr 4 0 0 0),(5,.ptr 5 0 0 0),(6,.ptr 6 0 0 0)],[(4,.box [.nils] 22),(5,.box [.nils] 123),(6,.box [iv (ckM m)] 31)]⟩) (ym) ?_);refine yz.imp (zU rfl rfl rfl rfl TyK.h (by simp)) (ym)
   ·obtain rfl:(3,[1,2,0])=c:=by injection Z
    refine yp rfl (yn (st0:=⟨[(19,iv (ckM m)),(4,.ptr 4 0 0 0),(5,.ptr 5 0 0 0),(6,.ptr 6 0 0 0)],[(4,.box [.nils] 22),(5,.box [.nils] 123),(6,.box [iv (ckM m)] 31)]⟩) (ym) ?_);refine yz.imp (zU rfl rfl rfl rfl TyK.h (by simp)) (ym)
   ·exact absurd Z (by simp)
  refine kQ ?_;refine zsF.plain (rv:=[.cell 4 22,.cell 5 123,.cell 6 31]) rfl rfl (kY (.many (by decide) (.cons (.cellS rfl rfl rfl TyK.h (by rw[V];exact bB _)) (.cons (.cellS rfl rfl rfl TyK.h (by rw[U];exact bB _)) (.cons (.cellS rfl rfl rfl TyK.h (kO (by rw[hE]))) .nil)))))
 have hm:ckM m=0:=by omega
 rw[show(if ckM m=0 then perfL m else[])=perfL m from j6 hm,hm];apply yk;refine XW.seq ?_;refine gc (zfD l (by omega)) ?_;refine gd ?_ ?_<;>intro x0
 ·have w9:=zym hm x0;obtain⟨hE,V,U⟩:=w9;apply ye;refine ya ?_;iterate 3 refine kV ?_
  apply kW;refine kQ ?_;refine zsF.plain (rv:=[.cell 4 22,.cell 5 123,.cell 6 31]) rfl rfl (kY (.many (by decide) (.cons (.cellS rfl rfl rfl TyK.h (by rw[V];exact bB _)) (.cons (.cellS rfl rfl rfl TyK.h (by rw[U];exact bB _)) (.cons (.cellS rfl rfl rfl TyK.h (kO (by rw[hE]))) .nil)))))
 have hi:ckIE l=0:=by omega
 apply yk;refine XW.defer 9 (λus=>?_);refine XW.of ?_;apply yh;refine bI [⟨0,29,mnA m,[]⟩,⟨1,30,yc (perfL m),[]⟩,⟨2,31,itsA l,[]⟩] [(3,[2]),(4,[2,3,1,0]),(5,[2,3,1,0,4]),(6,[4,2,1,0,3,5])] (λj=>match j with|0=>⟨[(1,itsA l),(2,.ptr 2 0 0 0),(7,yc (perfL m)),(4,.ptr 4 0 0 0),(5,.ptr 5 0 0 0),(6,.ptr 6 0 0 0)],[(9,.hold us.toList [.ptr 4 0 0 0,.ptr 5 0 0 0,.ptr 6 0 0 0]),(4,.box [.nils] 22),(5,.box [.nils] 123),(6,.box [iv 0] 31),(2,.box (mnE m) 27)]⟩|1=>⟨[(1,itsA l),(2,.ptr 2 0 0 0),(7,yc (perfL m)),(4,.ptr 4 0 0 0),(5,.ptr 5 0 0 0),(6,.ptr 6 0 0 0),(32,.own 32)],[(9,.hold us.toList [.ptr 4 0 0 0,.ptr 5 0 0 0,.ptr 6 0 0 0]),(4,.box [.nils] 22),(5,.box [.nils] 123),(6,.box [iv 0] 31),(2,.box (mnE m) 27),(32,.row itE l 129 12)]⟩|2=>⟨[(1,itsA l),(2,.ptr 2 0 0 0),(7,yc (perfL m)),(4,.ptr 4 0 0 0),(5,.ptr 5 0 0 0),(6,.ptr 6 0 0 0),(33,.agg [iv m.Max,iv m.Mod,iv m.Tem,iv m.Pro,yc (perfL m),.own 32,.nils])],[(9,.hold us.toList [.ptr 4 0 0 0,.ptr 5 0 0 0,.ptr 6 0 0 0]),(4,.box [.nils] 22),(5,.box [.nils] 123),(6,.box [iv 0] 31),(2,.box (mnE m) 27),(32,.row itE l 129 12)]⟩|3=>⟨[(1,itsA l),(2,.ptr 2 0 0 0),(7,yc (perfL m)),(4,.ptr 4 0 0 0),(5,.ptr 5 0 0 0),(6,.ptr 6 0 0 0),(34,.ptr 34 0 0 0)],[(9,.hold us.toList [.ptr 4 0 0 0,.ptr 5 0 0 0,.ptr 6 0 0 0]),(4,.box [.nils] 22),(5,.box [.nils] 123),(6,.box [iv 0] 31),(2,.box (mnE m) 27),(34,.box [iv m.Max,iv m.Mod,iv m.Tem,iv m.Pro,yc (perfL m),.own 32,.nils] 177),(32,.row itE l 129 12)]⟩|_=>⟨[(1,itsA l),(2,.ptr 2 0 0 0),(7,yc (perfL m)),(4,.ptr 4 0 0 0),(5,.ptr 5 0 0 0),(6,.ptr 6 0 0 0),(10,.ptr 34 0 0 0)],[(9,.hold us.toList [.ptr 4 0 0 0,.ptr 5 0 0 0,.ptr 6 0 0 0]),(4,.box [.nils] 22),(5,.box [.nils] 123),(6,.box [iv 0] 31),(2,.box (mnE m) 27),(34,.box [iv m.Max,iv m.Mod,iv m.Tem,iv m.Pro,yc (perfL m),.own 32,.nils] 177),(32,.row itE l 129 12)]⟩) mo (by kernel_rfl) (zj (yd)) (λj T=>?_) (λj c Z β hβ=>?_) ?_
 ·rcases j with _|_|_|_|_|j
  ·exact yF
  ·exact yF
  ·exact yF
  ·exact yF
  ·exact yF
  ·exact absurd (show j+5<=4 from T) (by omega)
 ·rcases j with _|_|_|_|j
  ·obtain rfl:(3,[2])=c:=by injection Z
   refine yp rfl (yn (st0:=⟨[(29,.ifb (β 0) (mnA m)),(30,.ifb (β 1) (yc (perfL m))),(31,itsA l),(1,itsA l),(2,.ptr 2 0 0 0),(7,yc (perfL m)),(4,.ptr 4 0 0 0),(5,.ptr 5 0 0 0),(6,.ptr 6 0 0 0)],[(9,.hold us.toList [.ptr 4 0 0 0,.ptr 5 0 0 0,.ptr 6 0 0 0]),(4,.box [.nils] 22),(5,.box [.nils] 123),(6,.box [iv 0] 31),(2,.box (mnE m) 27)]⟩) (ym) ?_);refine yz.imp (zsO [(5,32)] (zac l (by omega))) (ym)
  ·obtain rfl:(4,[2,3,1,0])=c:=by injection Z
   refine yp rfl (yn (st0:=⟨[(29,mnA m),(30,yc (perfL m)),(31,itsA l),(1,itsA l),(2,.ptr 2 0 0 0),(7,yc (perfL m)),(4,.ptr 4 0 0 0),(5,.ptr 5 0 0 0),(6,.ptr 6 0 0 0),(32,.own 32)],[(9,.hold us.toList [.ptr 4 0 0 0,.ptr 5 0 0 0,.ptr 6 0 0 0]),(4,.box [.nils] 22),(5,.box [.nils] 123),(6,.box [iv 0] 31),(2,.box (mnE m) 27),(32,.row itE l 129 12)]⟩) (ym) ?_);refine yz.imp (yL (kK yK) rfl rfl) (ym)
  ·obtain rfl:(5,[2,3,1,0,4])=c:=by injection Z
   refine yp rfl (yn (st0:=⟨[(29,mnA m),(30,yc (perfL m)),(31,itsA l),(1,itsA l),(2,.ptr 2 0 0 0),(7,yc (perfL m)),(4,.ptr 4 0 0 0),(5,.ptr 5 0 0 0),(6,.ptr 6 0 0 0),(33,.agg [iv m.Max,iv m.Mod,iv m.Tem,iv m.Pro,yc (perfL m),.own 32,.nils])],[(9,.hold us.toList [.ptr 4 0 0 0,.ptr 5 0 0 0,.ptr 6 0 0 0]),(4,.box [.nils] 22),(5,.box [.nils] 123),(6,.box [iv 0] 31),(2,.box (mnE m) 27),(32,.row itE l 129 12)]⟩) (ym) ?_);refine yz.imp (yL (zfl (k:=34) rfl rfl) rfl rfl) (ym)
  ·obtain rfl:(6,[4,2,1,0,3,5])=c:=by injection Z
   refine yp rfl (yn (st0:=⟨[(29,mnA m),(30,yc (perfL m)),(31,itsA l),(1,itsA l),(2,.ptr 2 0 0 0),(7,yc (perfL m)),(4,.ptr 4 0 0 0),(5,.ptr 5 0 0 0),(6,.ptr 6 0 0 0),(34,.ptr 34 0 0 0)],[(9,.hold us.toList [.ptr 4 0 0 0,.ptr 5 0 0 0,.ptr 6 0 0 0]),(4,.box [.nils] 22),(5,.box [.nils] 123),(6,.box [iv 0] 31),(2,.box (mnE m) 27),(34,.box [iv m.Max,iv m.Mod,iv m.Tem,iv m.Pro,yc (perfL m),.own 32,.nils] 177),(32,.row itE l 129 12)]⟩) (ym) ?_);refine yz.imp (yL (kK yK) rfl rfl) (ym)
  ·exact absurd Z (by simp)
 iterate 2 apply yh
 refine kT (st':=⟨[(4,.ptr 4 0 0 0),(5,.ptr 5 0 0 0),(6,.ptr 6 0 0 0),(10,.ptr 34 0 0 0)],[(9,.hold us.toList [.ptr 4 0 0 0,.ptr 5 0 0 0,.ptr 6 0 0 0]),(4,.box [.nils] 22),(5,.box [.nils] 123),(6,.box [iv 0] 31),(34,.box [iv m.Max,iv m.Mod,iv m.Tem,iv m.Pro,yc (perfL m),itsA l,.own 40] 177),(40,.row intE [] 3 1)]⟩) (((zda intE 3 1 34 40 6 177 _ [iv m.Max,iv m.Mod,iv m.Tem,iv m.Pro,yc (perfL m),.own 32,.own 40] rfl rfl rfl rfl).trans (kL (k:=32) rfl)).trans yd) ?_;apply yf;refine yj ?_;have v9:[]=(lvN m (perfL m) l 0).1:=by unfold lvN;rfl
 have v8:([iv m.Max,iv m.Mod,iv m.Tem,iv m.Pro,yc (perfL m),itsA l,.own 40]:List AV)=[iv m.Max,iv m.Mod,iv m.Tem,iv m.Pro,yc (perfL m),itsA (lvN m (perfL m) l 0).2,.own 40]:=by unfold lvN;rfl
 apply kP;refine zAX (ι:=List Int×Nat) (λp=>[(4,.ptr 4 0 0 0),(5,.ptr 5 0 0 0),(6,.ptr 6 0 0 0),(10,.ptr 34 0 0 0),(11,.fn 108 [])]) (λp=>[(9,.hold us.toList [.ptr 4 0 0 0,.ptr 5 0 0 0,.ptr 6 0 0 0]),(4,.box [.nils] 22),(5,.box [.nils] 123),(6,.box [iv 0] 31),(34,.box [iv m.Max,iv m.Mod,iv m.Tem,iv m.Pro,yc p.1,itsA (lvN m (perfL m) l p.2).2,.own 40] 177),(40,.row intE (lvN m (perfL m) l p.2).1 3 1)]) (λp=>(perfL m).drop p.2=p.1/\LvJ m (perfL m) l p.2) (λp=>p.1.length) (perfL m,0) (λp=>[(4,.ptr 4 0 0 0),(5,.ptr 5 0 0 0),(6,.ptr 6 0 0 0),(10,.ptr 34 0 0 0),(11,.nilf)]) (λp=>[(9,.hold us.toList [.ptr 4 0 0 0,.ptr 5 0 0 0,.ptr 6 0 0 0]),(4,.box [.nils] 22),(5,.box [.nils] 123),(6,.box [iv 0] 31),(34,.box [iv m.Max,iv m.Mod,iv m.Tem,iv m.Pro,yc [],itsA (lvN m (perfL m) l p.2).2,.own 40] 177),(40,.row intE (lvN m (perfL m) l p.2).1 3 1)]) (λp=>p.2=(perfL m).length/\LvJ m (perfL m) l p.2) (λp hk=>?_) (λp hk=>?_) ⟨rfl,zrG _ _ _⟩ yg
 ·obtain⟨hn,hJ⟩:=hk;have hd:=zyo hm hi hJ hn;obtain⟨hE,V,U⟩:=hd;apply yh;apply ye;refine ya ?_;refine ya (hs:=by exact znM ⟨_,_,_,Tryz.underlying179⟩ rfl) ?_;refine gd ?_ ?_<;>intro Z
  ·cases Z
  apply bA;apply yh;refine kT (st':=⟨[(4,.ptr 4 0 0 0),(5,.ptr 5 0 0 0),(6,.ptr 6 0 0 0),(10,.ptr 34 0 0 0)],[(9,.hold us.toList [.ptr 4 0 0 0,.ptr 5 0 0 0,.ptr 6 0 0 0]),(4,.box [.nils] 22),(5,.box [.nils] 123),(6,.box [iv 0] 31),(34,.box [iv m.Max,iv m.Mod,iv m.Tem,iv m.Pro,yc [],itsA (lvN m (perfL m) l p.2).2,yc (lvN m (perfL m) l p.2).1] 177)]⟩) ((kL (k:=40) rfl).trans yd) ?_;refine bI [⟨0,40,.ptr 34 0 0 0,[]⟩,⟨1,41,.ptr 34 0 0 0,[0]⟩,⟨2,42,.ptr 34 0 0 (0+6),[0,1]⟩,⟨3,43,yc (lvN m (perfL m) l p.2).1,[0,1,2]⟩,⟨4,44,.ptr 34 0 0 0,[]⟩,⟨5,45,.ptr 34 0 0 0,[4]⟩,⟨6,46,.ptr 34 0 0 (0+5),[4,5]⟩,⟨7,47,itsA (lvN m (perfL m) l p.2).2,[4,5,6]⟩] [(8,[2,1,0,3]),(9,[6,5,4,3,2,1,0,8,7]),(10,[8,7,6,5,4,3,2,1,0,9])] (λj=>match j with|0=>⟨[(4,.ptr 4 0 0 0),(5,.ptr 5 0 0 0),(6,.ptr 6 0 0 0),(10,.ptr 34 0 0 0)],[(9,.hold us.toList [.ptr 4 0 0 0,.ptr 5 0 0 0,.ptr 6 0 0 0]),(4,.box [.nils] 22),(5,.box [.nils] 123),(6,.box [iv 0] 31),(34,.box [iv m.Max,iv m.Mod,iv m.Tem,iv m.Pro,yc [],itsA (lvN m (perfL m) l p.2).2,yc (lvN m (perfL m) l p.2).1] 177)]⟩|1=>⟨[(4,.ptr 4 0 0 0),(5,.ptr 5 0 0 0),(6,.ptr 6 0 0 0),(10,.ptr 34 0 0 0)],[(9,.hold us.toList [.ptr 4 0 0 0,.ptr 5 0 0 0,.ptr 6 0 0 0]),(4,.box [yc (lvN m (perfL m) l p.2).1] 22),(5,.box [.nils] 123),(6,.box [iv 0] 31),(34,.box [iv m.Max,iv m.Mod,iv m.Tem,iv m.Pro,yc [],itsA (lvN m (perfL m) l p.2).2,yc (lvN m (perfL m) l p.2).1] 177)]⟩|2=>⟨[(4,.ptr 4 0 0 0),(5,.ptr 5 0 0 0),(6,.ptr 6 0 0 0),(10,.ptr 34 0 0 0)],[(9,.hold us.toList [.ptr 4 0 0 0,.ptr 5 0 0 0,.ptr 6 0 0 0]),(4,.box [yc (lvN m (perfL m) l p.2).1] 22),(5,.box [itsA (lvN m (perfL m) l p.2).2] 123),(6,.box [iv 0] 31),(34,.box [iv m.Max,iv m.Mod,iv m.Tem,iv m.Pro,yc [],itsA (lvN m (perfL m) l p.2).2,yc (lvN m (perfL m) l p.2).1] 177)]⟩|_=>⟨[(4,.ptr 4 0 0 0),(5,.ptr 5 0 0 0),(6,.ptr 6 0 0 0),(10,.ptr 34 0 0 0)],[(9,.hold us.toList [.ptr 4 0 0 0,.ptr 5 0 0 0,.ptr 6 0 0 0]),(4,.box [yc (lvN m (perfL m) l p.2).1] 22),(5,.box [itsA (lvN m (perfL m) l p.2).2] 123),(6,.box [iv 0] 31),(34,.box [iv m.Max,iv m.Mod,iv m.Tem,iv m.Pro,yc [],itsA (lvN m (perfL m) l p.2).2,yc (lvN m (perfL m) l p.2).1] 177)]⟩) mo (by kernel_rfl) (zj (yd)) (λj T=>?_) (λj c Z β hβ=>?_) ?_
  ·rcases j with _|_|_|_|j
   ·exact yF
   ·exact yF
   ·exact yF
   ·exact yF
   ·exact absurd (show j+4<=3 from T) (by omega)
  ·rcases j with _|_|_|j
   ·obtain rfl:(8,[2,1,0,3])=c:=by injection Z
    refine yp rfl (yn (st0:=⟨[(40,.ptr 34 0 0 0),(41,.ptr 34 0 0 0),(42,.ptr 34 0 0 (0+6)),(43,yc (lvN m (perfL m) l p.2).1),(44,.ifb (β 4) (.ptr 34 0 0 0)),(45,.ifb (β 5) (.ptr 34 0 0 0)),(46,.ifb (β 6) (.ptr 34 0 0 (0+5))),(47,.ifb (β 7) (itsA (lvN m (perfL m) l p.2).2)),(4,.ptr 4 0 0 0),(5,.ptr 5 0 0 0),(6,.ptr 6 0 0 0),(10,.ptr 34 0 0 0)],[(9,.hold us.toList [.ptr 4 0 0 0,.ptr 5 0 0 0,.ptr 6 0 0 0]),(4,.box [.nils] 22),(5,.box [.nils] 123),(6,.box [iv 0] 31),(34,.box [iv m.Max,iv m.Mod,iv m.Tem,iv m.Pro,yc [],itsA (lvN m (perfL m) l p.2).2,yc (lvN m (perfL m) l p.2).1] 177)]⟩) (ym) ?_);refine yz.imp (zU rfl rfl rfl rfl TyK.h (by simp)) (ym)
   ·obtain rfl:(9,[6,5,4,3,2,1,0,8,7])=c:=by injection Z
    refine yp rfl (yn (st0:=⟨[(40,.ptr 34 0 0 0),(41,.ptr 34 0 0 0),(42,.ptr 34 0 0 (0+6)),(43,yc (lvN m (perfL m) l p.2).1),(44,.ptr 34 0 0 0),(45,.ptr 34 0 0 0),(46,.ptr 34 0 0 (0+5)),(47,itsA (lvN m (perfL m) l p.2).2),(4,.ptr 4 0 0 0),(5,.ptr 5 0 0 0),(6,.ptr 6 0 0 0),(10,.ptr 34 0 0 0)],[(9,.hold us.toList [.ptr 4 0 0 0,.ptr 5 0 0 0,.ptr 6 0 0 0]),(4,.box [yc (lvN m (perfL m) l p.2).1] 22),(5,.box [.nils] 123),(6,.box [iv 0] 31),(34,.box [iv m.Max,iv m.Mod,iv m.Tem,iv m.Pro,yc [],itsA (lvN m (perfL m) l p.2).2,yc (lvN m (perfL m) l p.2).1] 177)]⟩) (ym) ?_);refine yz.imp (zU rfl rfl rfl rfl TyK.h (by simp)) (ym)
   ·obtain rfl:(10,[8,7,6,5,4,3,2,1,0,9])=c:=by injection Z
    refine yp rfl (yn (st0:=⟨[(40,.ptr 34 0 0 0),(41,.ptr 34 0 0 0),(42,.ptr 34 0 0 (0+6)),(43,yc (lvN m (perfL m) l p.2).1),(44,.ptr 34 0 0 0),(45,.ptr 34 0 0 0),(46,.ptr 34 0 0 (0+5)),(47,itsA (lvN m (perfL m) l p.2).2),(4,.ptr 4 0 0 0),(5,.ptr 5 0 0 0),(6,.ptr 6 0 0 0),(10,.ptr 34 0 0 0)],[(9,.hold us.toList [.ptr 4 0 0 0,.ptr 5 0 0 0,.ptr 6 0 0 0]),(4,.box [yc (lvN m (perfL m) l p.2).1] 22),(5,.box [itsA (lvN m (perfL m) l p.2).2] 123),(6,.box [iv 0] 31),(34,.box [iv m.Max,iv m.Mod,iv m.Tem,iv m.Pro,yc [],itsA (lvN m (perfL m) l p.2).2,yc (lvN m (perfL m) l p.2).1] 177)]⟩) (ym) ?_);refine yz.imp (zU rfl rfl rfl rfl TyK.h (by simp)) (ym)
   ·exact absurd Z (by simp)
  refine kQ ?_;refine zdu (kD:=9) (rv:=[.cell 4 22,.cell 5 123,.cell 6 31]) [(2000004,4),(2000005,5),(2000006,6)] (zgP (lvN m (perfL m) l p.2).1 (lvN m (perfL m) l p.2).2) (.inl ⟨rfl,rfl⟩) rfl rfl Imp.refl rfl (bC _) (.many (by decide) (.cons (.cellS rfl rfl rfl TyK.h (kO (j9 (λz=>yc z) V))) (.cons (.cellS rfl rfl rfl TyK.h (kO (j9 (λz=>itsA z) U))) (.cons (.cellS rfl rfl rfl TyK.h (kO (j9 (λz=>AV.int .i64 z) hE.symm))) .nil)))) rfl rfl rfl (by repeat'(first|exact True.intro|refine And.intro ⟨_,_,rfl,rfl,bD _,rfl⟩ ?_)) rfl rfl rfl
 ·obtain⟨hdr,hJ⟩:=hk;apply yh;apply ye;refine ya ?_;refine ya (hs:=by exact zqg ⟨_,_,_,Tryz.underlying179⟩ rfl) ?_;refine gd ?_ ?_<;>intro Z
  ·apply yk;apply kP;obtain⟨rs,n⟩:=p;have N:(lvN m (perfL m) l n).2.length=l.length:=hJ.len;have J:(lvN m (perfL m) l n).1.length<=n*(2*l.length+2):=hJ.cho;have H:n<=(perfL m).length:=hJ.le;rcases rs with _|⟨k,r⟩
   ·refine gq ?_;refine zZ [(2000000,34),(2000001,40)] (zi1 m (lvN m (perfL m) l n).2 (lvN m (perfL m) l n).1) ?_;refine yj ?_
    have hn:n=(perfL m).length:=by
     have h1:=j9 List.length hdr;rw[u7]at h1;have h2:(perfL m).length-n=0:=h1;have h3:n<=(perfL m).length:=H;omega
    exact Or.inr ⟨([],n),yd,hn,hJ⟩
   ·have hk:(perfL m)[n]? =some k:=by
     have h1:=j9 (λz=>z[0]?) hdr;simpa using h1
    have G:(perfL m).drop (n+1)=r:=by
     have h1:=j9 (λz=>z.drop 1) hdr;simpa using h1
    have E:=zrH hk;have xT:(lvN m (perfL m) l n).2.length<=1000:=by rw[N];exact hl
    have x4:(lvN m (perfL m) l n).1.length<=1000000:=by
     have h1:n*(2*l.length+2)<=4*(2*l.length+2):=jX _ (jT H x3);have h2:=jT J h1;omega
    by_cases h0:cuE m k (lvN m (perfL m) l n).2=0
    ·have hQ:=zlH (m:=m) (l:=l) hk;obtain⟨v5,w2⟩:=hQ;have v4:([iv m.Max,iv m.Mod,iv m.Tem,iv m.Pro,yc r,itsA (apV m k (lvN m (perfL m) l n).2 (cuV m k (lvN m (perfL m) l n).2)),.own 41]:List AV)=[iv m.Max,iv m.Mod,iv m.Tem,iv m.Pro,yc r,itsA (lvN m (perfL m) l (n+1)).2,.own 41]:=by rw[w2]
     refine gq ?_;refine zZ [(2000000,34),(2000001,40),(2000012,41)] (zj2 m (lvN m (perfL m) l n).2 (lvN m (perfL m) l n).1 k r E xT x4 h0) ?_;refine yj ?_;refine Or.inl ⟨(r,n+1),(yd (ts:=[(4,.ptr 4 0 0 0),(5,.ptr 5 0 0 0),(6,.ptr 6 0 0 0),(10,.ptr 34 0 0 0),(11,.fn 108 [])]) (hs:=[(9,.hold us.toList [.ptr 4 0 0 0,.ptr 5 0 0 0,.ptr 6 0 0 0]),(4,.box [.nils] 22),(5,.box [.nils] 123),(6,.box [iv 0] 31),(34,.box [iv m.Max,iv m.Mod,iv m.Tem,iv m.Pro,yc r,itsA (apV m k (lvN m (perfL m) l n).2 (cuV m k (lvN m (perfL m) l n).2)),.own 41] 177),(41,.row intE ((lvN m (perfL m) l n).1++cuV m k (lvN m (perfL m) l n).2) 3 1)])).trans ((yg (ts:=[(4,.ptr 4 0 0 0),(5,.ptr 5 0 0 0),(6,.ptr 6 0 0 0),(10,.ptr 34 0 0 0),(11,.fn 108 [])]) (hs:=[(9,.hold us.toList [.ptr 4 0 0 0,.ptr 5 0 0 0,.ptr 6 0 0 0]),(4,.box [.nils] 22),(5,.box [.nils] 123),(6,.box [iv 0] 31),(34,.box [iv m.Max,iv m.Mod,iv m.Tem,iv m.Pro,yc r,itsA (lvN m (perfL m) l (n+1)).2,.own 41] 177),(41,.row intE (lvN m (perfL m) l (n+1)).1 3 1)])).trans ((bN 41 40 rfl rfl).trans yd)),⟨G,hJ.s hk h0⟩,by simp⟩
    ·have hd:=zyn hm hi hJ hk h0;obtain⟨hE,V,U⟩:=hd;apply yf;(iterate 2 refine ya ?_);refine zy9 [(2000000,34),(2000001,40)] (zh0 m (lvN m (perfL m) l n).2 (lvN m (perfL m) l n).1 k r E xT x4 h0) ?_;refine zdu (kD:=9) (rv:=[.cell 4 22,.cell 5 123,.cell 6 31]) [(2000004,4),(2000005,5),(2000006,6)] (zgQ (cuE m k (lvN m (perfL m) l n).2)) (.inr (.inr ⟨_,rfl,rfl⟩)) rfl rfl Imp.refl rfl (bC _) (.many (by decide) (.cons (.cellS rfl rfl rfl TyK.h (by rw[V];exact bB _)) (.cons (.cellS rfl rfl rfl TyK.h (by rw[U];exact bB _)) (.cons (.cellS rfl rfl rfl TyK.h (kO (j9 (λz=>AV.int .i64 z) hE.symm))) .nil)))) rfl rfl rfl (by repeat'(first|exact True.intro|refine And.intro ⟨_,_,rfl,rfl,bD _,rfl⟩ ?_)) rfl rfl rfl
  ·cases Z
end
section
section
variable{m:Mn}{l:List Sg}
end
end
end Go.Rse
