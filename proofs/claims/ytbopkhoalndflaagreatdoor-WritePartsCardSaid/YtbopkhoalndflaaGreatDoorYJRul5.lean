/-
  Walks.
-/
import Derived.Test.YtbopkhoalndflaaGreatDoorYJRul2
set_option linter.all false
namespace Go.Rse
open Go Go.Proofs Go.Proofs.Tryz
attribute [local irreducible] Pur yA yC Ex X Fn Imp LeV LeB FnO It yH FnW FnOW FnP
def zgB(A:List Int)(B:List Ite):FnD prog 192 [.ptr 2000004 0 0 0,.ptr 2000005 0 0 0,.ptr 2000006 0 0 0] [(2000004,.box [yc A] 46),(2000005,.box [itsA B] 177),(2000006,.box [iv 0] 28)] [2000004,2000005,2000006] (.returning) (.returning) [(2000004,.box [yc A] 46),(2000005,.box [itsA B] 177),(2000006,.box [iv 0] 28)]:=by
 refine FnD.intro (ts:=[(0,.ptr 2000004 0 0 0),(1,.ptr 2000005 0 0 0),(2,.ptr 2000006 0 0 0)]) (n:=19) (cs:=[.ptr 2000004 0 0 0,.ptr 2000005 0 0 0,.ptr 2000006 0 0 0]) (by kernel_rfl) func192 rfl ntmps192 rfl (by simp) rfl (by simp) rfl rfl rfl (λg w d vs=>?_);refine XS.seq ?_;refine XS.recover rfl rfl (v:=.nilIface) (.inl ⟨rfl,rfl,rfl⟩) ?_;refine XS.of ?_;apply ye;refine ya ?_;refine ya (hs:=by exact zjf ⟨_,Tryz.underlying20⟩ rfl) ?_;refine gd ?_ ?_<;>intro Z
 ·cases Z
 apply yk;exact⟨rfl,.inl rfl,[],[],yd⟩
def zgC(e:Int):FnD prog 192 [.ptr 2000004 0 0 0,.ptr 2000005 0 0 0,.ptr 2000006 0 0 0] [(2000004,.box [.nils] 46),(2000005,.box [.nils] 177),(2000006,.box [iv 0] 28)] [2000004,2000005,2000006] (.panicking [{v:=ifV 234 .i64 e,recovered:=false}]) (.panicking [{v:=ifV 234 .i64 e,recovered:=true}]) [(2000004,.box [.nils] 46),(2000005,.box [.nils] 177),(2000006,.box [iv e] 28)]:=by
 refine FnD.intro (ts:=[(0,.ptr 2000004 0 0 0),(1,.ptr 2000005 0 0 0),(2,.ptr 2000006 0 0 0)]) (n:=19) (cs:=[.ptr 2000004 0 0 0,.ptr 2000005 0 0 0,.ptr 2000006 0 0 0]) (by kernel_rfl) func192 rfl ntmps192 rfl (by simp) rfl (by simp) rfl rfl rfl (λg w d vs=>?_);refine XS.seq ?_;refine XS.recover rfl rfl (v:=ifV 234 .i64 e) (.inr ⟨[],rfl,rfl⟩) ?_;refine XS.of ?_;apply ye;refine ya ?_;refine ya (hs:=by exact zms ⟨_,Tryz.underlying20⟩ rfl) ?_;refine gd ?_ ?_<;>intro V
 ·apply ye;refine ya ?_;refine ya (hs:=by exact zjD rfl ⟨_,Tryz.underlying234⟩) ?_;refine gd ?_ ?_<;>intro U
  ·cases U
  apply yk;refine kW [⟨0,17,.ptr 4 0 0 (0+0),[]⟩,⟨1,18,iv e,[0]⟩] [(2,[]),(3,[2]),(4,[2,0,3,1])] (λj=>match j with|0=>⟨[(0,.ptr 2000004 0 0 0),(1,.ptr 2000005 0 0 0),(2,.ptr 2000006 0 0 0),(4,.ptr 4 0 0 0)],[(1000001,.hold vs [.ptr 2000004 0 0 0,.ptr 2000005 0 0 0,.ptr 2000006 0 0 0]),(2000004,.box [.nils] 46),(2000005,.box [.nils] 177),(2000006,.box [iv 0] 28),(4,.box [iv e] 234)]⟩|1=>⟨[(0,.ptr 2000004 0 0 0),(1,.ptr 2000005 0 0 0),(2,.ptr 2000006 0 0 0),(4,.ptr 4 0 0 0)],[(1000001,.hold vs [.ptr 2000004 0 0 0,.ptr 2000005 0 0 0,.ptr 2000006 0 0 0]),(2000004,.box [.nils] 46),(2000005,.box [.nils] 177),(2000006,.box [iv 0] 28),(4,.box [iv e] 234)]⟩|2=>⟨[(0,.ptr 2000004 0 0 0),(1,.ptr 2000005 0 0 0),(2,.ptr 2000006 0 0 0),(4,.ptr 4 0 0 0)],[(1000001,.hold vs [.ptr 2000004 0 0 0,.ptr 2000005 0 0 0,.ptr 2000006 0 0 0]),(2000004,.box [.nils] 46),(2000005,.box [.nils] 177),(2000006,.box [iv 0] 28),(4,.box [iv e] 234)]⟩|_=>⟨[(0,.ptr 2000004 0 0 0),(1,.ptr 2000005 0 0 0),(2,.ptr 2000006 0 0 0),(4,.ptr 4 0 0 0)],[(1000001,.hold vs [.ptr 2000004 0 0 0,.ptr 2000005 0 0 0,.ptr 2000006 0 0 0]),(2000004,.box [.nils] 46),(2000005,.box [.nils] 177),(2000006,.box [iv e] 28),(4,.box [iv e] 234)]⟩) mo (by kernel_rfl) (zg (yd)) (λj T=>?_) (λj c Z β hβ=>?_) ?_
  ·rcases j with _|_|_|_|j
   ·exact yw
   ·exact yw
   ·exact yw
   ·exact yw
   ·exact absurd (show j+4<=3 from T) (by omega)
  ·rcases j with _|_|_|j
   ·obtain rfl:(2,[])=c:=by injection Z
    refine yo rfl (yn (st0:=⟨[(17,.ifb (β 0) (.ptr 4 0 0 (0+0))),(18,.ifb (β 1) (iv e)),(0,.ptr 2000004 0 0 0),(1,.ptr 2000005 0 0 0),(2,.ptr 2000006 0 0 0),(4,.ptr 4 0 0 0)],[(1000001,.hold vs [.ptr 2000004 0 0 0,.ptr 2000005 0 0 0,.ptr 2000006 0 0 0]),(2000004,.box [.nils] 46),(2000005,.box [.nils] 177),(2000006,.box [iv 0] 28),(4,.box [iv e] 234)]⟩) (yl) ?_);refine yC.imp (z6 rfl rfl rfl rfl TyK.h (by simp)) (yl)
   ·obtain rfl:(3,[2])=c:=by injection Z
    refine yo rfl (yn (st0:=⟨[(17,.ifb (β 0) (.ptr 4 0 0 (0+0))),(18,.ifb (β 1) (iv e)),(0,.ptr 2000004 0 0 0),(1,.ptr 2000005 0 0 0),(2,.ptr 2000006 0 0 0),(4,.ptr 4 0 0 0)],[(1000001,.hold vs [.ptr 2000004 0 0 0,.ptr 2000005 0 0 0,.ptr 2000006 0 0 0]),(2000004,.box [.nils] 46),(2000005,.box [.nils] 177),(2000006,.box [iv 0] 28),(4,.box [iv e] 234)]⟩) (yl) ?_);refine yC.imp (z6 rfl rfl rfl rfl TyK.h (by simp)) (yl)
   ·obtain rfl:(4,[2,0,3,1])=c:=by injection Z
    refine yo rfl (yn (st0:=⟨[(17,.ptr 4 0 0 (0+0)),(18,iv e),(0,.ptr 2000004 0 0 0),(1,.ptr 2000005 0 0 0),(2,.ptr 2000006 0 0 0),(4,.ptr 4 0 0 0)],[(1000001,.hold vs [.ptr 2000004 0 0 0,.ptr 2000005 0 0 0,.ptr 2000006 0 0 0]),(2000004,.box [.nils] 46),(2000005,.box [.nils] 177),(2000006,.box [iv 0] 28),(4,.box [iv e] 234)]⟩) (yl) ?_);refine yC.imp (z6 rfl rfl rfl rfl TyK.h (by simp)) (yl)
   ·exact absurd Z (by simp)
  exact⟨rfl,.inl rfl,[],[],yd⟩
 ·cases V
end Go.Rse
namespace Go.Rse
open Go Go.RowKit Go.Proofs.Tryz
section
variable{P:Program}{C:Ctx}{st:St}{ty:TypeId}{Q:Exit->St->Prop}
def zo2{T:TypeId}{x:Operand}{yt:TypeId}{f:FuncId}{cs:List AV}(Z:∃a b c,P.underlying T=some (.func a b c))(hx:ev st x=some (.fn f cs)):Pur P C (.binOp .neq T x (.const .nilFunc) yt) ty st (.bool true):=λg a w dst pos af gd hr=>by
 obtain⟨us,e,_,_⟩:=zcX (yy hr hx);have e0:a.eval (.const .nilFunc)=.nilFunc:=rfl;refine⟨.bool true,?_,.bool _⟩;obtain⟨p,q,r,Z⟩:=Z;have V:(eqGuard .neq T x (.const .nilFunc) (.func (.func f) #[] us.toArray) .nilFunc).run P w=.ok () w:=by unfold eqGuard;simp
 have U:(Op.equal T (.func (.func f) #[] us.toArray) .nilFunc).run P w=.ok false w:=by
  unfold Op.equal;rw[show Op.maxDepth=9999+1 from rfl];unfold Op.equalIn;simp[run_underlying Z]
 simp only[execOp,e,e0,jK,V,j9,binOp,U,jL];rfl
def zmY{T:TypeId}{x:Operand}{yt:TypeId}(Z:∃a b c,P.underlying T=some (.func a b c))(hx:ev st x=some .nilf):Pur P C (.binOp .neq T x (.const .nilFunc) yt) ty st (.bool false):=λg a w dst pos af gd hr=>by
 have e:=zgP (yy hr hx);have e0:a.eval (.const .nilFunc)=.nilFunc:=rfl;refine⟨.bool false,?_,.bool _⟩;obtain⟨p,q,r,Z⟩:=Z;have V:(eqGuard .neq T x (.const .nilFunc) .nilFunc .nilFunc).run P w=.ok () w:=by unfold eqGuard;simp
 have U:(Op.equal T .nilFunc .nilFunc).run P w=.ok true w:=by
  unfold Op.equal;rw[show Op.maxDepth=9999+1 from rfl];unfold Op.equalIn;simp[run_underlying Z]
 simp only[execOp,e,e0,jK,V,j9,binOp,U,jL];rfl
def zyw{ι:Type}{c:Code}(I:ι->List (Nat×AV))(H:ι->List (Nat×Blk))(J:ι->Prop)(μ:ι->Nat)(i0:ι)(IB:ι->List (Nat×AV))(HB:ι->List (Nat×Blk))(JB:ι->Prop)
 (Z:∀i,JB i->X P C c ⟨IB i,HB i⟩ (zdH (λ_=>False) Q))
 (h:∀i,J i->X P C c ⟨I i,H i⟩ (zdH (λst'=>(∃i',Imp C st' ⟨I i',H i'⟩/\J i'/\μ i'<μ i)\/(∃i',Imp C st' ⟨IB i',HB i'⟩/\JB i')) Q))
 (hJ:J i0)(h0:Imp C st ⟨I i0,H i0⟩):X P C (.loop c) st Q:=by
 refine X.loop (λs:ι⊕ι=>(⟨Sum.elim I IB s,Sum.elim H HB s⟩:St)) (Sum.elim J JB) (Sum.elim (λi=>μ i+1) (λ_=>0)) (.inl i0) h0 hJ (λs hs=>?_);cases s with
 |inl i=>
  intro g a w hr;refine wpIn_mono (h i hs g a w hr) ?_
  rintro e a w⟨st,g,hr,q⟩
  refine⟨st,g,hr,?_⟩;cases e
  case normal=>
   rcases q with⟨i',q1,q2,q3⟩|⟨i',q1,q2⟩
   ·exact⟨.inl i',q1,q2,Nat.succ_lt_succ q3⟩
   ·exact⟨.inr i',q1,q2,Nat.succ_pos _⟩
  all_goals exact q
 |inr i=>
  intro g a w hr;refine wpIn_mono (Z i hs g a w hr) ?_
  rintro e a w⟨st,g,hr,q⟩
  refine⟨st,g,hr,?_⟩;cases e
  case normal=>exact q.elim
  all_goals exact q
end
end Go.Rse
namespace Go.Rse
open Go Go.Proofs Go.Proofs.Tryz
attribute [local irreducible] Pur yA yC Ex X Fn Imp LeV LeB FnO It yH FnW FnOW FnP FnD
attribute [local irreducible] cuV cuE apV apE leE leC leI lvN lvF ckM perfL ckIE ckIX
set_option maxHeartbeats 4000000 in
def zjv(m:Mn)(l:List Ite)(hl:l.length<=1000):Fn prog 139 [mnA m,itsA l] (.tup [yc (leC m l),itsA (leI m l),iv (leE m l)]):=by
 have x2:=zkF m;refine zpd (ts:=[(0,mnA m),(1,itsA l)]) (n:=48) (by kernel_rfl) func139 rfl ntmps139 rfl rfl (by simp) (λg w d=>?_);refine XW.seq ?_;apply yj;refine zH ?_;iterate 3 refine zk ?_
 apply kQ;refine XW.seq ?_;refine gq ?_;refine yP (zdm m) ?_;iterate 4 refine ya ?_
 refine kK ?_;apply kQ;refine XW.seq ?_;refine gd ?_ ?_<;>intro x1
 ·have x0:=zxM (l:=l) x1;obtain⟨hE,T,N⟩:=x0;apply yf;refine kW [⟨0,19,iv (ckM m),[]⟩] [(1,[]),(2,[1]),(3,[1,2,0])] (λj=>match j with|0=>⟨[(4,.ptr 4 0 0 0),(5,.ptr 5 0 0 0),(6,.ptr 6 0 0 0)],[(4,.box [.nils] 46),(5,.box [.nils] 177),(6,.box [iv (ckM m)] 28)]⟩|1=>⟨[(4,.ptr 4 0 0 0),(5,.ptr 5 0 0 0),(6,.ptr 6 0 0 0)],[(4,.box [.nils] 46),(5,.box [.nils] 177),(6,.box [iv (ckM m)] 28)]⟩|2=>⟨[(4,.ptr 4 0 0 0),(5,.ptr 5 0 0 0),(6,.ptr 6 0 0 0)],[(4,.box [.nils] 46),(5,.box [.nils] 177),(6,.box [iv (ckM m)] 28)]⟩|_=>⟨[(4,.ptr 4 0 0 0),(5,.ptr 5 0 0 0),(6,.ptr 6 0 0 0)],[(4,.box [.nils] 46),(5,.box [.nils] 177),(6,.box [iv (ckM m)] 28)]⟩) mo (by kernel_rfl) (zg (yd)) (λj J=>?_) (λj c Z β hβ=>?_) ?_
  ·rcases j with _|_|_|_|j
   ·exact yw
   ·exact yw
   ·exact yw
   ·exact yw
   ·exact absurd (show j+4<=3 from J) (by omega)
  ·rcases j with _|_|_|j
   ·obtain rfl:(1,[])=c:=by injection Z
    refine yo rfl (yn (st0:=⟨[(19,.ifb (β 0) (iv (ckM m))),(4,.ptr 4 0 0 0),(5,.ptr 5 0 0 0),(6,.ptr 6 0 0 0)],[(4,.box [.nils] 46),(5,.box [.nils] 177),(6,.box [iv (ckM m)] 28)]⟩) (yl) ?_);refine yC.imp (z6 rfl rfl rfl rfl TyK.h (by simp)) (yl)
   ·obtain rfl:(2,[1])=c:=by injection Z
    refine yo rfl (yn (st0:=⟨[(19,.ifb (β 0) (iv (ckM m))),(4,.ptr 4 0 0 0),(5,.ptr 5 0 0 0),(6,.ptr 6 0 0 0)],[(4,.box [.nils] 46),(5,.box [.nils] 177),(6,.box [iv (ckM m)] 28)]⟩) (yl) ?_);refine yC.imp (z6 rfl rfl rfl rfl TyK.h (by simp)) (yl)
   ·obtain rfl:(3,[1,2,0])=c:=by injection Z
    refine yo rfl (yn (st0:=⟨[(19,iv (ckM m)),(4,.ptr 4 0 0 0),(5,.ptr 5 0 0 0),(6,.ptr 6 0 0 0)],[(4,.box [.nils] 46),(5,.box [.nils] 177),(6,.box [iv (ckM m)] 28)]⟩) (yl) ?_);refine yC.imp (z6 rfl rfl rfl rfl TyK.h (by simp)) (yl)
   ·exact absurd Z (by simp)
  refine kE ?_;refine zrm.plain (rv:=[.cell 4 46,.cell 5 177,.cell 6 28]) rfl rfl (kL (.many (by decide) (.cons (.cellS rfl rfl rfl TyK.h (by rw[T];exact kP _)) (.cons (.cellS rfl rfl rfl TyK.h (by rw[N];exact kP _)) (.cons (.cellS rfl rfl rfl TyK.h (kC (by rw[hE]))) .nil)))))
 have hm:ckM m=0:=by omega
 rw[show(if ckM m=0 then perfL m else[])=perfL m from j3 hm,hm];apply yk;refine XW.seq ?_;refine gc (zfy l (by omega)) ?_;refine gd ?_ ?_<;>intro w2
 ·have v9:=zxN hm w2;obtain⟨hE,T,N⟩:=v9;apply ye;refine ya ?_;iterate 3 refine kK ?_
  apply kQ;refine kE ?_;refine zrm.plain (rv:=[.cell 4 46,.cell 5 177,.cell 6 28]) rfl rfl (kL (.many (by decide) (.cons (.cellS rfl rfl rfl TyK.h (by rw[T];exact kP _)) (.cons (.cellS rfl rfl rfl TyK.h (by rw[N];exact kP _)) (.cons (.cellS rfl rfl rfl TyK.h (kC (by rw[hE]))) .nil)))))
 have hi:ckIE l=0:=by omega
 apply yk;refine XW.defer 9 (λus=>?_);refine XW.of ?_;apply yf;refine kW [⟨0,29,mnA m,[]⟩,⟨1,30,yc (perfL m),[]⟩,⟨2,31,itsA l,[]⟩] [(3,[2]),(4,[2,3,1,0]),(5,[2,3,1,0,4]),(6,[4,2,1,0,3,5])] (λj=>match j with|0=>⟨[(1,itsA l),(2,.ptr 2 0 0 0),(7,yc (perfL m)),(4,.ptr 4 0 0 0),(5,.ptr 5 0 0 0),(6,.ptr 6 0 0 0)],[(9,.hold us.toList [.ptr 4 0 0 0,.ptr 5 0 0 0,.ptr 6 0 0 0]),(4,.box [.nils] 46),(5,.box [.nils] 177),(6,.box [iv 0] 28),(2,.box (mnE m) 23)]⟩|1=>⟨[(1,itsA l),(2,.ptr 2 0 0 0),(7,yc (perfL m)),(4,.ptr 4 0 0 0),(5,.ptr 5 0 0 0),(6,.ptr 6 0 0 0),(32,.own 32)],[(9,.hold us.toList [.ptr 4 0 0 0,.ptr 5 0 0 0,.ptr 6 0 0 0]),(4,.box [.nils] 46),(5,.box [.nils] 177),(6,.box [iv 0] 28),(2,.box (mnE m) 23),(32,.row itE l 183 12)]⟩|2=>⟨[(1,itsA l),(2,.ptr 2 0 0 0),(7,yc (perfL m)),(4,.ptr 4 0 0 0),(5,.ptr 5 0 0 0),(6,.ptr 6 0 0 0),(33,.agg [iv m.Max,iv m.Mod,iv m.Tem,iv m.Pro,yc (perfL m),.own 32,.nils])],[(9,.hold us.toList [.ptr 4 0 0 0,.ptr 5 0 0 0,.ptr 6 0 0 0]),(4,.box [.nils] 46),(5,.box [.nils] 177),(6,.box [iv 0] 28),(2,.box (mnE m) 23),(32,.row itE l 183 12)]⟩|3=>⟨[(1,itsA l),(2,.ptr 2 0 0 0),(7,yc (perfL m)),(4,.ptr 4 0 0 0),(5,.ptr 5 0 0 0),(6,.ptr 6 0 0 0),(34,.ptr 34 0 0 0)],[(9,.hold us.toList [.ptr 4 0 0 0,.ptr 5 0 0 0,.ptr 6 0 0 0]),(4,.box [.nils] 46),(5,.box [.nils] 177),(6,.box [iv 0] 28),(2,.box (mnE m) 23),(34,.box [iv m.Max,iv m.Mod,iv m.Tem,iv m.Pro,yc (perfL m),.own 32,.nils] 239),(32,.row itE l 183 12)]⟩|_=>⟨[(1,itsA l),(2,.ptr 2 0 0 0),(7,yc (perfL m)),(4,.ptr 4 0 0 0),(5,.ptr 5 0 0 0),(6,.ptr 6 0 0 0),(10,.ptr 34 0 0 0)],[(9,.hold us.toList [.ptr 4 0 0 0,.ptr 5 0 0 0,.ptr 6 0 0 0]),(4,.box [.nils] 46),(5,.box [.nils] 177),(6,.box [iv 0] 28),(2,.box (mnE m) 23),(34,.box [iv m.Max,iv m.Mod,iv m.Tem,iv m.Pro,yc (perfL m),.own 32,.nils] 239),(32,.row itE l 183 12)]⟩) mo (by kernel_rfl) (zg (yd)) (λj J=>?_) (λj c Z β hβ=>?_) ?_
 ·rcases j with _|_|_|_|_|j
  ·exact yw
  ·exact yw
  ·exact yw
  ·exact yw
  ·exact yw
  ·exact absurd (show j+5<=4 from J) (by omega)
 ·rcases j with _|_|_|_|j
  ·obtain rfl:(3,[2])=c:=by injection Z
   refine yo rfl (yn (st0:=⟨[(29,.ifb (β 0) (mnA m)),(30,.ifb (β 1) (yc (perfL m))),(31,itsA l),(1,itsA l),(2,.ptr 2 0 0 0),(7,yc (perfL m)),(4,.ptr 4 0 0 0),(5,.ptr 5 0 0 0),(6,.ptr 6 0 0 0)],[(9,.hold us.toList [.ptr 4 0 0 0,.ptr 5 0 0 0,.ptr 6 0 0 0]),(4,.box [.nils] 46),(5,.box [.nils] 177),(6,.box [iv 0] 28),(2,.box (mnE m) 23)]⟩) (yl) ?_);refine yC.imp (zrw [(5,32)] (z8 l (by omega))) (yl)
  ·obtain rfl:(4,[2,3,1,0])=c:=by injection Z
   refine yo rfl (yn (st0:=⟨[(29,mnA m),(30,yc (perfL m)),(31,itsA l),(1,itsA l),(2,.ptr 2 0 0 0),(7,yc (perfL m)),(4,.ptr 4 0 0 0),(5,.ptr 5 0 0 0),(6,.ptr 6 0 0 0),(32,.own 32)],[(9,.hold us.toList [.ptr 4 0 0 0,.ptr 5 0 0 0,.ptr 6 0 0 0]),(4,.box [.nils] 46),(5,.box [.nils] 177),(6,.box [iv 0] 28),(2,.box (mnE m) 23),(32,.row itE l 183 12)]⟩) (yl) ?_);refine yC.imp (yK (k8 yJ) rfl rfl) (yl)
  ·obtain rfl:(5,[2,3,1,0,4])=c:=by injection Z
   refine yo rfl (yn (st0:=⟨[(29,mnA m),(30,yc (perfL m)),(31,itsA l),(1,itsA l),(2,.ptr 2 0 0 0),(7,yc (perfL m)),(4,.ptr 4 0 0 0),(5,.ptr 5 0 0 0),(6,.ptr 6 0 0 0),(33,.agg [iv m.Max,iv m.Mod,iv m.Tem,iv m.Pro,yc (perfL m),.own 32,.nils])],[(9,.hold us.toList [.ptr 4 0 0 0,.ptr 5 0 0 0,.ptr 6 0 0 0]),(4,.box [.nils] 46),(5,.box [.nils] 177),(6,.box [iv 0] 28),(2,.box (mnE m) 23),(32,.row itE l 183 12)]⟩) (yl) ?_);refine yC.imp (yK (zfg (k:=34) rfl rfl) rfl rfl) (yl)
  ·obtain rfl:(6,[4,2,1,0,3,5])=c:=by injection Z
   refine yo rfl (yn (st0:=⟨[(29,mnA m),(30,yc (perfL m)),(31,itsA l),(1,itsA l),(2,.ptr 2 0 0 0),(7,yc (perfL m)),(4,.ptr 4 0 0 0),(5,.ptr 5 0 0 0),(6,.ptr 6 0 0 0),(34,.ptr 34 0 0 0)],[(9,.hold us.toList [.ptr 4 0 0 0,.ptr 5 0 0 0,.ptr 6 0 0 0]),(4,.box [.nils] 46),(5,.box [.nils] 177),(6,.box [iv 0] 28),(2,.box (mnE m) 23),(34,.box [iv m.Max,iv m.Mod,iv m.Tem,iv m.Pro,yc (perfL m),.own 32,.nils] 239),(32,.row itE l 183 12)]⟩) (yl) ?_);refine yC.imp (yK (k8 yJ) rfl rfl) (yl)
  ·exact absurd Z (by simp)
 iterate 2 apply yf
 refine kJ (st':=⟨[(4,.ptr 4 0 0 0),(5,.ptr 5 0 0 0),(6,.ptr 6 0 0 0),(10,.ptr 34 0 0 0)],[(9,.hold us.toList [.ptr 4 0 0 0,.ptr 5 0 0 0,.ptr 6 0 0 0]),(4,.box [.nils] 46),(5,.box [.nils] 177),(6,.box [iv 0] 28),(34,.box [iv m.Max,iv m.Mod,iv m.Tem,iv m.Pro,yc (perfL m),itsA l,.own 40] 239),(40,.row intE [] 3 1)]⟩) (((zc9 intE 3 1 34 40 6 239 _ [iv m.Max,iv m.Mod,iv m.Tem,iv m.Pro,yc (perfL m),.own 32,.own 40] rfl rfl rfl rfl).trans (k9 (k:=32) rfl)).trans yd) ?_;apply yj;refine yh ?_;have v5:[]=(lvN m (perfL m) l 0).1:=by unfold lvN;rfl
 have v4:([iv m.Max,iv m.Mod,iv m.Tem,iv m.Pro,yc (perfL m),itsA l,.own 40]:List AV)=[iv m.Max,iv m.Mod,iv m.Tem,iv m.Pro,yc (perfL m),itsA (lvN m (perfL m) l 0).2,.own 40]:=by unfold lvN;rfl
 apply kB;refine zyw (ι:=List Int×Nat) (λp=>[(4,.ptr 4 0 0 0),(5,.ptr 5 0 0 0),(6,.ptr 6 0 0 0),(10,.ptr 34 0 0 0),(11,.fn 194 [])]) (λp=>[(9,.hold us.toList [.ptr 4 0 0 0,.ptr 5 0 0 0,.ptr 6 0 0 0]),(4,.box [.nils] 46),(5,.box [.nils] 177),(6,.box [iv 0] 28),(34,.box [iv m.Max,iv m.Mod,iv m.Tem,iv m.Pro,yc p.1,itsA (lvN m (perfL m) l p.2).2,.own 40] 239),(40,.row intE (lvN m (perfL m) l p.2).1 3 1)]) (λp=>(perfL m).drop p.2=p.1/\LvJ m (perfL m) l p.2) (λp=>p.1.length) (perfL m,0) (λp=>[(4,.ptr 4 0 0 0),(5,.ptr 5 0 0 0),(6,.ptr 6 0 0 0),(10,.ptr 34 0 0 0),(11,.nilf)]) (λp=>[(9,.hold us.toList [.ptr 4 0 0 0,.ptr 5 0 0 0,.ptr 6 0 0 0]),(4,.box [.nils] 46),(5,.box [.nils] 177),(6,.box [iv 0] 28),(34,.box [iv m.Max,iv m.Mod,iv m.Tem,iv m.Pro,yc [],itsA (lvN m (perfL m) l p.2).2,.own 40] 239),(40,.row intE (lvN m (perfL m) l p.2).1 3 1)]) (λp=>p.2=(perfL m).length/\LvJ m (perfL m) l p.2) (λp V=>?_) (λp V=>?_) ⟨rfl,zuz _ _ _⟩ yi
 ·obtain⟨hn,hJ⟩:=V;have hd:=zxP hm hi hJ hn;obtain⟨hE,T,N⟩:=hd;apply yf;apply ye;refine ya ?_;refine ya (hs:=by exact zmY ⟨_,_,_,Tryz.underlying241⟩ rfl) ?_;refine gd ?_ ?_<;>intro Z
  ·cases Z
  apply kO;apply yf;refine kJ (st':=⟨[(4,.ptr 4 0 0 0),(5,.ptr 5 0 0 0),(6,.ptr 6 0 0 0),(10,.ptr 34 0 0 0)],[(9,.hold us.toList [.ptr 4 0 0 0,.ptr 5 0 0 0,.ptr 6 0 0 0]),(4,.box [.nils] 46),(5,.box [.nils] 177),(6,.box [iv 0] 28),(34,.box [iv m.Max,iv m.Mod,iv m.Tem,iv m.Pro,yc [],itsA (lvN m (perfL m) l p.2).2,yc (lvN m (perfL m) l p.2).1] 239)]⟩) ((k9 (k:=40) rfl).trans yd) ?_;refine kW [⟨0,40,.ptr 34 0 0 0,[]⟩,⟨1,41,.ptr 34 0 0 0,[0]⟩,⟨2,42,.ptr 34 0 0 (0+6),[0,1]⟩,⟨3,43,yc (lvN m (perfL m) l p.2).1,[0,1,2]⟩,⟨4,44,.ptr 34 0 0 0,[]⟩,⟨5,45,.ptr 34 0 0 0,[4]⟩,⟨6,46,.ptr 34 0 0 (0+5),[4,5]⟩,⟨7,47,itsA (lvN m (perfL m) l p.2).2,[4,5,6]⟩] [(8,[2,1,0,3]),(9,[6,5,4,3,2,1,0,8,7]),(10,[8,7,6,5,4,3,2,1,0,9])] (λj=>match j with|0=>⟨[(4,.ptr 4 0 0 0),(5,.ptr 5 0 0 0),(6,.ptr 6 0 0 0),(10,.ptr 34 0 0 0)],[(9,.hold us.toList [.ptr 4 0 0 0,.ptr 5 0 0 0,.ptr 6 0 0 0]),(4,.box [.nils] 46),(5,.box [.nils] 177),(6,.box [iv 0] 28),(34,.box [iv m.Max,iv m.Mod,iv m.Tem,iv m.Pro,yc [],itsA (lvN m (perfL m) l p.2).2,yc (lvN m (perfL m) l p.2).1] 239)]⟩|1=>⟨[(4,.ptr 4 0 0 0),(5,.ptr 5 0 0 0),(6,.ptr 6 0 0 0),(10,.ptr 34 0 0 0)],[(9,.hold us.toList [.ptr 4 0 0 0,.ptr 5 0 0 0,.ptr 6 0 0 0]),(4,.box [yc (lvN m (perfL m) l p.2).1] 46),(5,.box [.nils] 177),(6,.box [iv 0] 28),(34,.box [iv m.Max,iv m.Mod,iv m.Tem,iv m.Pro,yc [],itsA (lvN m (perfL m) l p.2).2,yc (lvN m (perfL m) l p.2).1] 239)]⟩|2=>⟨[(4,.ptr 4 0 0 0),(5,.ptr 5 0 0 0),(6,.ptr 6 0 0 0),(10,.ptr 34 0 0 0)],[(9,.hold us.toList [.ptr 4 0 0 0,.ptr 5 0 0 0,.ptr 6 0 0 0]),(4,.box [yc (lvN m (perfL m) l p.2).1] 46),(5,.box [itsA (lvN m (perfL m) l p.2).2] 177),(6,.box [iv 0] 28),(34,.box [iv m.Max,iv m.Mod,iv m.Tem,iv m.Pro,yc [],itsA (lvN m (perfL m) l p.2).2,yc (lvN m (perfL m) l p.2).1] 239)]⟩|_=>⟨[(4,.ptr 4 0 0 0),(5,.ptr 5 0 0 0),(6,.ptr 6 0 0 0),(10,.ptr 34 0 0 0)],[(9,.hold us.toList [.ptr 4 0 0 0,.ptr 5 0 0 0,.ptr 6 0 0 0]),(4,.box [yc (lvN m (perfL m) l p.2).1] 46),(5,.box [itsA (lvN m (perfL m) l p.2).2] 177),(6,.box [iv 0] 28),(34,.box [iv m.Max,iv m.Mod,iv m.Tem,iv m.Pro,yc [],itsA (lvN m (perfL m) l p.2).2,yc (lvN m (perfL m) l p.2).1] 239)]⟩) mo (by kernel_rfl) (zg (yd)) (λj J=>?_) (λj c Z β hβ=>?_) ?_
  ·rcases j with _|_|_|_|j
   ·exact yw
   ·exact yw
   ·exact yw
   ·exact yw
   ·exact absurd (show j+4<=3 from J) (by omega)
  ·rcases j with _|_|_|j
   ·obtain rfl:(8,[2,1,0,3])=c:=by injection Z
    refine yo rfl (yn (st0:=⟨[(40,.ptr 34 0 0 0),(41,.ptr 34 0 0 0),(42,.ptr 34 0 0 (0+6)),(43,yc (lvN m (perfL m) l p.2).1),(44,.ifb (β 4) (.ptr 34 0 0 0)),(45,.ifb (β 5) (.ptr 34 0 0 0)),(46,.ifb (β 6) (.ptr 34 0 0 (0+5))),(47,.ifb (β 7) (itsA (lvN m (perfL m) l p.2).2)),(4,.ptr 4 0 0 0),(5,.ptr 5 0 0 0),(6,.ptr 6 0 0 0),(10,.ptr 34 0 0 0)],[(9,.hold us.toList [.ptr 4 0 0 0,.ptr 5 0 0 0,.ptr 6 0 0 0]),(4,.box [.nils] 46),(5,.box [.nils] 177),(6,.box [iv 0] 28),(34,.box [iv m.Max,iv m.Mod,iv m.Tem,iv m.Pro,yc [],itsA (lvN m (perfL m) l p.2).2,yc (lvN m (perfL m) l p.2).1] 239)]⟩) (yl) ?_);refine yC.imp (z6 rfl rfl rfl rfl TyK.h (by simp)) (yl)
   ·obtain rfl:(9,[6,5,4,3,2,1,0,8,7])=c:=by injection Z
    refine yo rfl (yn (st0:=⟨[(40,.ptr 34 0 0 0),(41,.ptr 34 0 0 0),(42,.ptr 34 0 0 (0+6)),(43,yc (lvN m (perfL m) l p.2).1),(44,.ptr 34 0 0 0),(45,.ptr 34 0 0 0),(46,.ptr 34 0 0 (0+5)),(47,itsA (lvN m (perfL m) l p.2).2),(4,.ptr 4 0 0 0),(5,.ptr 5 0 0 0),(6,.ptr 6 0 0 0),(10,.ptr 34 0 0 0)],[(9,.hold us.toList [.ptr 4 0 0 0,.ptr 5 0 0 0,.ptr 6 0 0 0]),(4,.box [yc (lvN m (perfL m) l p.2).1] 46),(5,.box [.nils] 177),(6,.box [iv 0] 28),(34,.box [iv m.Max,iv m.Mod,iv m.Tem,iv m.Pro,yc [],itsA (lvN m (perfL m) l p.2).2,yc (lvN m (perfL m) l p.2).1] 239)]⟩) (yl) ?_);refine yC.imp (z6 rfl rfl rfl rfl TyK.h (by simp)) (yl)
   ·obtain rfl:(10,[8,7,6,5,4,3,2,1,0,9])=c:=by injection Z
    refine yo rfl (yn (st0:=⟨[(40,.ptr 34 0 0 0),(41,.ptr 34 0 0 0),(42,.ptr 34 0 0 (0+6)),(43,yc (lvN m (perfL m) l p.2).1),(44,.ptr 34 0 0 0),(45,.ptr 34 0 0 0),(46,.ptr 34 0 0 (0+5)),(47,itsA (lvN m (perfL m) l p.2).2),(4,.ptr 4 0 0 0),(5,.ptr 5 0 0 0),(6,.ptr 6 0 0 0),(10,.ptr 34 0 0 0)],[(9,.hold us.toList [.ptr 4 0 0 0,.ptr 5 0 0 0,.ptr 6 0 0 0]),(4,.box [yc (lvN m (perfL m) l p.2).1] 46),(5,.box [itsA (lvN m (perfL m) l p.2).2] 177),(6,.box [iv 0] 28),(34,.box [iv m.Max,iv m.Mod,iv m.Tem,iv m.Pro,yc [],itsA (lvN m (perfL m) l p.2).2,yc (lvN m (perfL m) l p.2).1] 239)]⟩) (yl) ?_);refine yC.imp (z6 rfl rfl rfl rfl TyK.h (by simp)) (yl)
   ·exact absurd Z (by simp)
  refine kE ?_;refine zfI (kD:=9) (rv:=[.cell 4 46,.cell 5 177,.cell 6 28]) [(2000004,4),(2000005,5),(2000006,6)] (zgB (lvN m (perfL m) l p.2).1 (lvN m (perfL m) l p.2).2) (.inl ⟨rfl,rfl⟩) rfl rfl Imp.refl rfl (kS _) (.many (by decide) (.cons (.cellS rfl rfl rfl TyK.h (kC (j5 (λz=>yc z) T))) (.cons (.cellS rfl rfl rfl TyK.h (kC (j5 (λz=>itsA z) N))) (.cons (.cellS rfl rfl rfl TyK.h (kC (j5 (λz=>AV.int .i64 z) hE.symm))) .nil)))) rfl rfl rfl (by repeat'(first|exact True.intro|refine And.intro ⟨_,_,rfl,rfl,kR _,rfl⟩ ?_)) rfl rfl rfl
 ·obtain⟨hdr,hJ⟩:=V;apply yf;apply ye;refine ya ?_;refine ya (hs:=by exact zo2 ⟨_,_,_,Tryz.underlying241⟩ rfl) ?_;refine gd ?_ ?_<;>intro Z
  ·apply yk;apply kB;obtain⟨rs,n⟩:=p;have I:(lvN m (perfL m) l n).2.length=l.length:=hJ.len;have H:(lvN m (perfL m) l n).1.length<=n*(2*l.length+2):=hJ.cho;have G:n<=(perfL m).length:=hJ.le;rcases rs with _|⟨k,r⟩
   ·refine gq ?_;refine zV [(2000000,34),(2000001,40)] (ziA m (lvN m (perfL m) l n).2 (lvN m (perfL m) l n).1) ?_;refine yh ?_
    have hn:n=(perfL m).length:=by
     have U:=j5 List.length hdr;rw[wM]at U;have h2:(perfL m).length-n=0:=U;have h3:n<=(perfL m).length:=G;omega
    exact Or.inr ⟨([],n),yd,hn,hJ⟩
   ·have V:(perfL m)[n]? =some k:=by
     have U:=j5 (λz=>z[0]?) hdr;simpa using U
    have E:(perfL m).drop (n+1)=r:=by
     have U:=j5 (λz=>z.drop 1) hdr;simpa using U
    have xT:=zpY V;have x4:(lvN m (perfL m) l n).2.length<=1000:=by rw[I];exact hl
    have x3:(lvN m (perfL m) l n).1.length<=1000000:=by
     have U:n*(2*l.length+2)<=4*(2*l.length+2):=jT _ (jQ G x2);have h2:=jQ H U;omega
    by_cases h0:cuE m k (lvN m (perfL m) l n).2=0
    ·have hQ:=zkE (m:=m) (l:=l) V;obtain⟨v3,v8⟩:=hQ;have v1:([iv m.Max,iv m.Mod,iv m.Tem,iv m.Pro,yc r,itsA (apV m k (lvN m (perfL m) l n).2 (cuV m k (lvN m (perfL m) l n).2)),.own 41]:List AV)=[iv m.Max,iv m.Mod,iv m.Tem,iv m.Pro,yc r,itsA (lvN m (perfL m) l (n+1)).2,.own 41]:=by rw[v8]
     refine gq ?_;refine zV [(2000000,34),(2000001,40),(2000012,41)] (zju m (lvN m (perfL m) l n).2 (lvN m (perfL m) l n).1 k r xT x4 x3 h0) ?_;refine yh ?_;refine Or.inl ⟨(r,n+1),(yd (ts:=[(4,.ptr 4 0 0 0),(5,.ptr 5 0 0 0),(6,.ptr 6 0 0 0),(10,.ptr 34 0 0 0),(11,.fn 194 [])]) (hs:=[(9,.hold us.toList [.ptr 4 0 0 0,.ptr 5 0 0 0,.ptr 6 0 0 0]),(4,.box [.nils] 46),(5,.box [.nils] 177),(6,.box [iv 0] 28),(34,.box [iv m.Max,iv m.Mod,iv m.Tem,iv m.Pro,yc r,itsA (apV m k (lvN m (perfL m) l n).2 (cuV m k (lvN m (perfL m) l n).2)),.own 41] 239),(41,.row intE ((lvN m (perfL m) l n).1++cuV m k (lvN m (perfL m) l n).2) 3 1)])).trans ((yi (ts:=[(4,.ptr 4 0 0 0),(5,.ptr 5 0 0 0),(6,.ptr 6 0 0 0),(10,.ptr 34 0 0 0),(11,.fn 194 [])]) (hs:=[(9,.hold us.toList [.ptr 4 0 0 0,.ptr 5 0 0 0,.ptr 6 0 0 0]),(4,.box [.nils] 46),(5,.box [.nils] 177),(6,.box [iv 0] 28),(34,.box [iv m.Max,iv m.Mod,iv m.Tem,iv m.Pro,yc r,itsA (lvN m (perfL m) l (n+1)).2,.own 41] 239),(41,.row intE (lvN m (perfL m) l (n+1)).1 3 1)])).trans ((bD 41 40 rfl rfl).trans yd)),⟨E,hJ.s V h0⟩,by simp⟩
    ·have hd:=zxO hm hi hJ V h0;obtain⟨hE,T,N⟩:=hd;apply yj;(iterate 2 refine ya ?_);refine zwT [(2000000,34),(2000001,40)] (zhI m (lvN m (perfL m) l n).2 (lvN m (perfL m) l n).1 k r xT x4 x3 h0) ?_;refine zfI (kD:=9) (rv:=[.cell 4 46,.cell 5 177,.cell 6 28]) [(2000004,4),(2000005,5),(2000006,6)] (zgC (cuE m k (lvN m (perfL m) l n).2)) (.inr (.inr ⟨_,rfl,rfl⟩)) rfl rfl Imp.refl rfl (kS _) (.many (by decide) (.cons (.cellS rfl rfl rfl TyK.h (by rw[T];exact kP _)) (.cons (.cellS rfl rfl rfl TyK.h (by rw[N];exact kP _)) (.cons (.cellS rfl rfl rfl TyK.h (kC (j5 (λz=>AV.int .i64 z) hE.symm))) .nil)))) rfl rfl rfl (by repeat'(first|exact True.intro|refine And.intro ⟨_,_,rfl,rfl,kR _,rfl⟩ ?_)) rfl rfl rfl
  ·cases Z
end Go.Rse
