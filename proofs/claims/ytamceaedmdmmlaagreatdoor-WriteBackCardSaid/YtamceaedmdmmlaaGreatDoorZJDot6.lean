/-
  Walks.
-/
import Derived.Test.YtamceaedmdmmlaaGreatDoorZJShelf1
set_option linter.all false
namespace Go.Rse
open Go Go.Proofs Go.Proofs.Tryz
attribute [local irreducible] Pur yy yz Ex X Fn Imp LeV LeB FnO It yH
section
def ziD(l:List Sg)(i:Int):Int:=match l[(i+1).toNat]? with|some s=>s.Value|none=>9
def zbA(m:Mn)(l:List Sg)(i:Int)(p:Sg):Int:=
 if(mngs m p).length=2 then(if ziD l i<=p.Value then m.aV p.Value else if m.pV p.Value=3 then p.Value else 0)else(mngs m p).headD 0
def zdk(m:Mn)(l:List Sg)(i:Int):Int:=match zd8 l i with|some p=>zbA m l i p|none=>0
def zi(m:Mn)(l:List Sg):List Int:=(yS l l.length).map (zdk m l)
def zpU{m:Mn}{l:List Sg}{L:List Int}{k:Nat}{x:Int}{p:Sg}(h:L[k]? =some x)(Z:l[(x-1).toNat]? =some p):(L.take k).map (zdk m l)++[zbA m l x p]=(L.take (k+1)).map (zdk m l):=by
 have e:zdk m l x=zbA m l x p:=by unfold zdk zd8;rw[Z]
 rw[jG,h];simp[e]
def zme{m:Mn}{l:List Sg}(h:zar m l 0 l=0):∀k,k<=l.length->∀x,x∈yS l k->∀p,l[(x-1).toNat]? =some p->(mngs m p).length≠0
 |0,_,x,hx=>by simp[yS]at hx
 |k+1,hk,x,hx=>by
  simp only[yS,jY]at hx;rcases hx with hx|hx
  ·exact zme h k (by omega) x hx
  ·have hs:l[k]? =some l[k]:=lgg (by omega);simp only[hs]at hx;split at hx
   ·rename_i Z;have h0:=(zax h (k+1) hk).2 k _ (by omega) hs;simp at hx;intro p V;cases k with
    |zero=>unfold sgF at h0;rw[j7 (by omega),j6 Z]at h0;simp at h0
    |succ j=>
     rw[show(x-1).toNat=j by omega]at V;unfold sgF at h0;rw[j7 (by omega),j6 Z]at h0;simp only[V]at h0;intro U;rw[j6 (.inr U)]at h0;simp at h0
   ·simp at hx
def zqu{m:Mn}{l:List Sg}{k:Nat}{x:Int}{p:Sg}(h:(yS l l.length)[k]? =some x)(Z:l[(x-1).toNat]? =some p):(mnsD m l)[k]? =some (mngs m p):=by
 have e:mnAt m l x=mngs m p:=by unfold mnAt zd8;rw[Z]
 rw[mnsD,jN,h];simp[e]
def zk2(l:List Sg)(hl:l.length<=1000)(i:Int)(h0:0<=i)(h1:i<=1000):Fn prog 149 [iv i,.ept (λ_:Unit=>[sgsA l]) () 0] (iv (ziD l i)):=by
 refine kR func149 ntmps149 (λg w d=>?_);refine gd ?_ ?_<;>intro Z
 ·obtain⟨s,hs⟩:∃s,l[(i+1).toNat]? =some s:=⟨_,lgg (by omega)⟩;refine gq ?_;all_goals(congr 1;unfold ziD;rw[hs])
 have hs:l[(i+1).toNat]? =none:=wF (by omega);refine gq ?_;all_goals(congr 1;unfold ziD;rw[hs])
def znp(m:Mn)(l:List Sg)(hl:l.length<=1000):Fn prog 99 [mnA m,sgsA l] (.tup [yc (if ckD m l=0 then zi m l else[]),iv (ckD m l)]):=by
 refine kR func99 ntmps99 (λg w d=>?_);refine gq ?_;refine ze0 ?_;refine gc (C_dot_Meanings m l hl) ?_;refine gd ?_ ?_<;>intro Z
 ·apply ye;refine yC ?_;refine kQ ?_;refine kM (yd (ts:=[(4,yc []),(5,iv (ckD m l))]) (hs:=[])) ?_;refine yl ?_ ?_;all_goals(first|(simp[Z];done)|(rw[j6 Z,←T];rfl)|(rw[j7 Z])|exact zE Z|rfl)
 apply yk;apply yh;refine kT (yY (k:=3) rfl rfl) ?_;have E:(if ckD m l=0 then mnsD m l else[])=mnsD m l:=j6 Z;rw[E]
 have J:zar m l 0 l=0:=by unfold ckD at Z;split at Z
                          ·exact Z
                          ·exact absurd Z (by assumption)
 apply yf;iterate 2 refine ya ?_
 apply yE;refine yj ?_;iterate 2 apply yh
 refine kT (yG intE 3 1 9 9 rfl rfl) ?_;refine gq ?_;refine yR (zi2 l hl) ?_;refine yQ ?_;apply kP;have w2:=zbv l l.length;refine zm (λk=>[(2,.ptr 2 0 0 0),(3,.ept (λ_:Unit=>[sgsA l]) () 0),(5,iv 0),(6,zc7 (mnsD m l)),(8,.fn 149 [.ept (λ_:Unit=>[sgsA l]) () 0]),(9,.own 9),(29,yc (yS l l.length)),(30,iv (yS l l.length).length),(31,iv (k:Int))]) (λk=>[(2,.box (mnE m) 27),(9,.row intE (((yS l l.length).take k).map (zdk m l)) 3 1)]) ((yS l l.length).length) (λk hk=>?_) (h0:=yd);refine gd ?_ ?_<;>intro v9
 ·have xT:=@getX _ (yS l l.length) k (by omega);obtain⟨x,hx,v8⟩:=xT;obtain⟨j,s,p,v5,x4,x3⟩:=zfg J l.length (jE _) x (j8 hx);have v4:j+1<l.length:=(j5.1 x4).1;have hp:l[(x-1).toNat]? =some p:=by rw[show(x-1).toNat=j by omega];exact x3
  have x2:=zme J l.length (jE _) x (j8 hx) p hp;have v3:(mnsD m l)[(k:Int).toNat]? =some (mngs m p):=by simpa using zqu (m:=m) hx hp
  obtain⟨c0,H⟩:∃c0,(mngs m p)[(0:Int).toNat]? =some c0:=⟨_,lgg (by simp;omega)⟩
  have x1:(mngs m p).headD 0=c0:=by
   cases hq:mngs m p with
   |nil=>simp[hq]at x2
   |cons a b=>simp[hq]at H;simp[H]
  have V:=zpU (m:=m) hx hp;have v2:(((yS l l.length).take k).map (zdk m l)).length<=1000:=by simp;omega
  refine gd ?_ ?_<;>intro v1
  ·refine gc (zdW m p.Value) ?_;refine gc (zgI m p.Value) ?_;refine gc (zk2 l hl x (by omega) (by omega)) ?_;refine gd ?_ ?_<;>intro x0
   ·have U:zbA m l x p=m.aV p.Value:=by unfold zbA;rw[j6 (by omega),j6 x0]
    rw[U]at V;refine gq ?_;refine yD intE [_] ?_;refine gq ?_;refine yu (k+1)
   ·refine gd ?_ ?_<;>intro G
    ·have N:m.pV p.Value=3:=G;have U:zbA m l x p=p.Value:=by unfold zbA;rw[j6 (by omega),j7 (by omega),j6 N]
     rw[U]at V;refine gq ?_;refine yD intE [_] ?_;refine gq ?_;refine yu (k+1)
    ·have N:¬m.pV p.Value=3:=G;have U:zbA m l x p=0:=by unfold zbA;rw[j6 (by omega),j7 (by omega),j7 N]
     rw[U]at V;refine gq ?_;refine yD intE [_] ?_;refine gq ?_;refine yu (k+1)
  ·have U:zbA m l x p=c0:=by unfold zbA;rw[j7 (by omega),x1]
   rw[U]at V;refine gq ?_;refine yD intE [_] ?_;refine gq ?_;refine yu (k+1)
 ·have w9:k=(yS l l.length).length:=by omega
  subst w9;have T:((yS l l.length).take (yS l l.length).length).map (zdk m l)=zi m l:=by rw[jK];rfl
  apply bA;apply ye;refine yC ?_;refine kQ ?_;refine kM (kL (k:=9) rfl) ?_;refine yl ?_ ?_;all_goals(first|(simp[Z];done)|(rw[j6 Z,←T];rfl)|(rw[j7 Z])|exact zE Z|rfl)
end
section
attribute [local irreducible] mnsD ckD
end
section
def zqv(x:Int)(l:List Int):decide (0<=fidx (λu=>decide (x=u)) l)=decide (x∈l):=by
 by_cases h:x∈l
 ·have:l.findIdx (λu=>decide (x=u))<l.length:=List.findIdx_lt_length_of_exists ⟨x,h,by simp⟩;simp only[fidx,j6 this,h];simp
 ·have V:l.findIdx (λu=>decide (x=u))=l.length:=uP.2 λu Z=>jH λe=>h (e▸Z)
  have:¬l.findIdx (λu=>decide (x=u))<l.length:=by omega
  simp only[fidx,j7 this,h];simp
def zdN(l:List Int)(x:Int)(hl:l.length<=4000000000):Fn prog 217 [yc l,iv x] (iv (fidx (λu=>decide (x=u)) l)):=by
 refine kR func217 ntmps217 (λg w d=>?_);apply ye;refine yj ?_;apply yh;apply ye;refine yC ?_;apply kP;refine zW (λk=>[(0,yc l),(1,iv x),(7,iv l.length),(8,iv (k:Int))]) (λk=>[]) (λk=>k<=l.length/\∀i u,i<k->l[i]? =some u->decide (x=u)=false) l.length (λk hk=>?_) (hJ:=by exact⟨by omega,λi u h=>absurd h (u0 i)⟩) (h0:=yd);obtain⟨N,Z⟩:=hk;refine gd ?_ ?_<;>intro J
 ·have T:=@getX _ l k (by omega);obtain⟨v,hv,H⟩:=T;refine gd ?_ ?_<;>intro V
  ·refine gq ?_;all_goals(congr 1;exact(zmT hv (by simpa using V) Z).symm)
  refine gq ?_
  refine yu (k+1) (hJ:=by
   refine⟨by omega,λi u hi U=>?_⟩;rcases wG.1 hi with h|h
   ·exact Z i u h U
   ·subst h;rw[hv]at U;injection U with U;subst U;simpa using V)
 ·refine gq ?_;all_goals(congr 1;exact(zkC (λi u hi=>Z i u (by omega))).symm)
def yV(l:List Int)(x:Int)(hl:l.length<=4000000000):Fn prog 152 [yc l,iv x] (.bool (decide (x∈l))):=by
 refine kR func152 ntmps152 (λg w d=>?_);refine gc (zdN l x hl) ?_;all_goals(congr 1;exact zqv x l)
def zjS(v:Int)(a:List Int)(b:List Bool)(N:1<=a.length)(J:1<=b.length)(V:a.length<=1000)(U:b.length<=1000):FnO prog 153 [iv v,.ptr 2000000 0 0 0,.ptr 2000001 0 0 0] [(2000000,.box [.own 2000002] 22),(2000001,.box [.own 2000003] 87),(2000002,.row intE a 3 1),(2000003,.row zba b 4 1)] [2000000,2000001,2000002,2000003] (.tup []) [(2000000,.box [.own 2000002] 22),(2000001,.box [.own 2000003] 87),(2000002,.row intE (a.set ((a.length:Int)-1).toNat v) 3 1),(2000003,.row zba (b.set ((b.length:Int)-1).toNat (decide (v=0))) 4 1)]:=by
 refine bP (ts:=[(0,iv v),(1,.ptr 2000000 0 0 0),(2,.ptr 2000001 0 0 0)]) (rv:=[]) (n:=17) (cs:=[.ptr 2000000 0 0 0,.ptr 2000001 0 0 0,.own 2000002,.own 2000003]) (by kernel_rfl) func153 rfl ntmps153 rfl rfl (by simp) rfl rfl rfl rfl (λg w d vs=>?_);refine bI [⟨0,4,.own 2000002,[]⟩,⟨1,5,.own 2000002,[]⟩,⟨2,6,iv a.length,[1]⟩,⟨3,7,iv ((a.length:Int)-1),[1,2]⟩,⟨4,8,.own 2000003,[]⟩,⟨5,9,.own 2000003,[]⟩,⟨6,10,iv b.length,[5]⟩,⟨7,11,iv ((b.length:Int)-1),[5,6]⟩,⟨8,12,iv v,[]⟩,⟨9,13,iv v,[]⟩,⟨10,14,.bool (decide (v=0)),[9]⟩,⟨11,15,.ptr 2000002 1 ((a.length:Int)-1).toNat 0,[8,2,1,3,0]⟩,⟨13,16,.ptr 2000003 1 ((b.length:Int)-1).toNat 0,[12,11,10,9,8,6,5,3,2,1,0,7,4]⟩] [(12,[3,2,1,0,8,11]),(14,[11,9,8,7,6,5,4,3,2,1,0,12,10,13])] (λj=>⟨[(0,iv v),(1,.ptr 2000000 0 0 0),(2,.ptr 2000001 0 0 0)],match j with|0=>[(1000001,.hold vs [.ptr 2000000 0 0 0,.ptr 2000001 0 0 0,.own 2000002,.own 2000003]),(2000000,.box [.own 2000002] 22),(2000001,.box [.own 2000003] 87),(2000002,.row intE (a) 3 1),(2000003,.row zba (b) 4 1)]|1=>[(1000001,.hold vs [.ptr 2000000 0 0 0,.ptr 2000001 0 0 0,.own 2000002,.own 2000003]),(2000000,.box [.own 2000002] 22),(2000001,.box [.own 2000003] 87),(2000002,.row intE (a.set ((a.length:Int)-1).toNat v) 3 1),(2000003,.row zba (b) 4 1)]|_=>[(1000001,.hold vs [.ptr 2000000 0 0 0,.ptr 2000001 0 0 0,.own 2000002,.own 2000003]),(2000000,.box [.own 2000002] 22),(2000001,.box [.own 2000003] 87),(2000002,.row intE (a.set ((a.length:Int)-1).toNat v) 3 1),(2000003,.row zba (b.set ((b.length:Int)-1).toNat (decide (v=0))) 4 1)]⟩) mo (by kernel_rfl) (zj (yd)) (λj T=>?_) (λj c Z β hβ=>?_) ?_
 ·rcases j with _|_|_|j
  ·first
    |refine⟨.inr ⟨_,rfl,rfl,rfl,rfl,kK (zal rfl rfl rfl ty22)⟩,?_⟩
    |refine⟨.inr ⟨_,rfl,rfl,rfl,rfl,kK (zaU rfl rfl rfl ty22)⟩,?_⟩
    |refine⟨.inr ⟨_,rfl,rfl,rfl,rfl,kK (zbm rfl rfl (by assumption) rfl rfl ty22)⟩,?_⟩
   first
    |refine⟨.inr ⟨_,rfl,rfl,rfl,rfl,kK (zal rfl rfl rfl ty22)⟩,?_⟩
    |refine⟨.inr ⟨_,rfl,rfl,rfl,rfl,kK (zaU rfl rfl rfl ty22)⟩,?_⟩
    |refine⟨.inr ⟨_,rfl,rfl,rfl,rfl,kK (zbm rfl rfl (by assumption) rfl rfl ty22)⟩,?_⟩
   first
    |refine⟨.inr ⟨_,rfl,rfl,rfl,rfl,kK (zg3 rfl sl22)⟩,?_⟩
    |refine⟨.inr ⟨_,rfl,rfl,rfl,rfl,kK (zfj rfl rfl sl22)⟩,?_⟩
    |refine⟨.inr ⟨_,rfl,rfl,rfl,rfl,kK (zd4 rfl sl22)⟩,?_⟩
   refine⟨.inr ⟨_,rfl,rfl,rfl,rfl,kK (zpr rfl rfl (v6 _ (by omega)))⟩,?_⟩
   first
    |refine⟨.inr ⟨_,rfl,rfl,rfl,rfl,kK (zal rfl rfl rfl ty87)⟩,?_⟩
    |refine⟨.inr ⟨_,rfl,rfl,rfl,rfl,kK (zaU rfl rfl rfl ty87)⟩,?_⟩
    |refine⟨.inr ⟨_,rfl,rfl,rfl,rfl,kK (zbm rfl rfl (by assumption) rfl rfl ty87)⟩,?_⟩
   first
    |refine⟨.inr ⟨_,rfl,rfl,rfl,rfl,kK (zal rfl rfl rfl ty87)⟩,?_⟩
    |refine⟨.inr ⟨_,rfl,rfl,rfl,rfl,kK (zaU rfl rfl rfl ty87)⟩,?_⟩
    |refine⟨.inr ⟨_,rfl,rfl,rfl,rfl,kK (zbm rfl rfl (by assumption) rfl rfl ty87)⟩,?_⟩
   first
    |refine⟨.inr ⟨_,rfl,rfl,rfl,rfl,kK (zg3 rfl sl87)⟩,?_⟩
    |refine⟨.inr ⟨_,rfl,rfl,rfl,rfl,kK (zfj rfl rfl sl87)⟩,?_⟩
    |refine⟨.inr ⟨_,rfl,rfl,rfl,rfl,kK (zd4 rfl sl87)⟩,?_⟩
   refine⟨.inr ⟨_,rfl,rfl,rfl,rfl,kK (zpr rfl rfl (v6 _ (by omega)))⟩,?_⟩;(iterate 2 refine⟨.inr ⟨_,rfl,rfl,rfl,rfl,kK (zl0 rfl)⟩,?_⟩);refine⟨.inr ⟨_,rfl,rfl,rfl,rfl,kK (zsm rfl rfl)⟩,?_⟩
   first
    |refine⟨.inr ⟨_,rfl,rfl,rfl,rfl,kK (zam rfl rfl sl22 ty3 (λ_=>rfl) (by omega) (by assumption))⟩,?_⟩
    |refine⟨.inr ⟨_,rfl,rfl,rfl,rfl,kK (zeP rfl rfl rfl sl22 ty3 (by omega) (by omega))⟩,?_⟩
   exact yF
  ·iterate 4 refine⟨.inl rfl,?_⟩
   first
    |refine⟨.inr ⟨_,rfl,rfl,rfl,rfl,kK (zal rfl rfl rfl ty87)⟩,?_⟩
    |refine⟨.inr ⟨_,rfl,rfl,rfl,rfl,kK (zaU rfl rfl rfl ty87)⟩,?_⟩
    |refine⟨.inr ⟨_,rfl,rfl,rfl,rfl,kK (zbm rfl rfl (by assumption) rfl rfl ty87)⟩,?_⟩
   first
    |refine⟨.inr ⟨_,rfl,rfl,rfl,rfl,kK (zal rfl rfl rfl ty87)⟩,?_⟩
    |refine⟨.inr ⟨_,rfl,rfl,rfl,rfl,kK (zaU rfl rfl rfl ty87)⟩,?_⟩
    |refine⟨.inr ⟨_,rfl,rfl,rfl,rfl,kK (zbm rfl rfl (by assumption) rfl rfl ty87)⟩,?_⟩
   first
    |refine⟨.inr ⟨_,rfl,rfl,rfl,rfl,kK (zg3 rfl sl87)⟩,?_⟩
    |refine⟨.inr ⟨_,rfl,rfl,rfl,rfl,kK (zfj rfl rfl sl87)⟩,?_⟩
    |refine⟨.inr ⟨_,rfl,rfl,rfl,rfl,kK (zd4 rfl sl87)⟩,?_⟩
   refine⟨.inr ⟨_,rfl,rfl,rfl,rfl,kK (zpr rfl rfl (v6 _ (by omega)))⟩,?_⟩;refine⟨.inl rfl,?_⟩;refine⟨.inr ⟨_,rfl,rfl,rfl,rfl,kK (zl0 rfl)⟩,?_⟩;refine⟨.inr ⟨_,rfl,rfl,rfl,rfl,kK (zsm rfl rfl)⟩,?_⟩;refine⟨.inl rfl,?_⟩
   first
    |refine⟨.inr ⟨_,rfl,rfl,rfl,rfl,kK (zam rfl rfl sl87 ty4 (λ_=>rfl) (by omega) (by assumption))⟩,?_⟩
    |refine⟨.inr ⟨_,rfl,rfl,rfl,rfl,kK (zeP rfl rfl rfl sl87 ty4 (by omega) (by omega))⟩,?_⟩
   exact True.intro
  ·exact yF
  ·exact absurd (show j+3<=2 from T) (by omega)
 ·rcases j with _|_|j
  ·obtain rfl:(12,[3,2,1,0,8,11])=c:=by injection Z
   refine yp rfl (yn (st0:=⟨[(4,.own 2000002),(5,.own 2000002),(6,iv a.length),(7,iv ((a.length:Int)-1)),(8,.ifb (β 4) (.own 2000003)),(9,.ifb (β 5) (.own 2000003)),(10,.ifb (β 6) (iv b.length)),(11,.ifb (β 7) (iv ((b.length:Int)-1))),(12,iv v),(13,.ifb (β 9) (iv v)),(14,.ifb (β 10) (.bool (decide (v=0)))),(15,.ptr 2000002 1 ((a.length:Int)-1).toNat 0),(16,.ifb (β 13) (.ptr 2000003 1 ((b.length:Int)-1).toNat 0)),(0,iv v),(1,.ptr 2000000 0 0 0),(2,.ptr 2000001 0 0 0)],[(1000001,.hold vs [.ptr 2000000 0 0 0,.ptr 2000001 0 0 0,.own 2000002,.own 2000003]),(2000000,.box [.own 2000002] 22),(2000001,.box [.own 2000003] 87),(2000002,.row intE (a) 3 1),(2000003,.row zba (b) 4 1)]⟩) (ym) ?_);refine yz.imp (zeX v rfl rfl (λ_=>rfl) (by decide) (by omega) rfl rfl rfl rfl rfl ty3) (ym)
  ·obtain rfl:(14,[11,9,8,7,6,5,4,3,2,1,0,12,10,13])=c:=by injection Z
   refine yp rfl (yn (st0:=⟨[(4,.own 2000002),(5,.own 2000002),(6,iv a.length),(7,iv ((a.length:Int)-1)),(8,.own 2000003),(9,.own 2000003),(10,iv b.length),(11,iv ((b.length:Int)-1)),(12,iv v),(13,iv v),(14,.bool (decide (v=0))),(15,.ptr 2000002 1 ((a.length:Int)-1).toNat 0),(16,.ptr 2000003 1 ((b.length:Int)-1).toNat 0),(0,iv v),(1,.ptr 2000000 0 0 0),(2,.ptr 2000001 0 0 0)],[(1000001,.hold vs [.ptr 2000000 0 0 0,.ptr 2000001 0 0 0,.own 2000002,.own 2000003]),(2000000,.box [.own 2000002] 22),(2000001,.box [.own 2000003] 87),(2000002,.row intE (a.set ((a.length:Int)-1).toNat v) 3 1),(2000003,.row zba (b) 4 1)]⟩) (ym) ?_);refine yz.imp (zeX (decide (v=0)) rfl rfl (λ_=>rfl) (by decide) (by omega) rfl rfl rfl rfl rfl ty4) (ym)
  ·exact absurd Z (by simp)
 refine zpx.mk (ts:=[]) (.inl rfl) (yd) (.many (by decide) .nil)
end
section
def mkK(ch:List Int)(l:List Sg):Nat->List Int×List Bool×Nat
 |0=>([],[],0)
 |k+1=>match l[k]? with
  |some s=>if s.Kind=3 then((mkK ch l k).1.set (((mkK ch l k).1.length:Int)-1).toNat (ch.getD (mkK ch l k).2.2 0),(mkK ch l k).2.1.set (((mkK ch l k).2.1.length:Int)-1).toNat (decide (ch.getD (mkK ch l k).2.2 0=0)),(mkK ch l k).2.2+1)else((mkK ch l k).1++[0],(mkK ch l k).2.1++[false],(mkK ch l k).2.2)
  |none=>mkK ch l k
def zgp{ch:List Int}{l:List Sg}{k:Nat}{s:Sg}(h:l[k]? =some s)(Z:s.Kind=3):mkK ch l (k+1)=((mkK ch l k).1.set (((mkK ch l k).1.length:Int)-1).toNat (ch.getD (mkK ch l k).2.2 0),(mkK ch l k).2.1.set (((mkK ch l k).2.1.length:Int)-1).toNat (decide (ch.getD (mkK ch l k).2.2 0=0)),(mkK ch l k).2.2+1):=by
 simp only[mkK,h,j6 Z]
def zeo{ch:List Int}{l:List Sg}{k:Nat}{s:Sg}(h:l[k]? =some s)(Z:¬s.Kind=3):mkK ch l (k+1)=((mkK ch l k).1++[0],(mkK ch l k).2.1++[false],(mkK ch l k).2.2):=by
 simp only[mkK,h,j7 Z]
theorem ze5(ch:List Int)(l:List Sg):∀k,(mkK ch l k).1.length=(mkK ch l k).2.1.length/\(mkK ch l k).1.length<=k/\(mkK ch l k).2.2=(yS l k).length
 |0=>⟨rfl,jE _,rfl⟩
 |k+1=>by
  obtain⟨h1,U,V⟩:=ze5 ch l k;cases hs:l[k]? with
  |none=>simp only[mkK,yS,hs,wO];exact⟨h1,by omega,V⟩
  |some s=>
   by_cases Z:s.Kind=3
   ·rw[zgp hs Z];simp[yS,hs,Z];omega
   ·rw[zeo hs Z];simp[yS,hs,Z];omega
def zfO(l:List Sg):∀(n k:Nat),k<=n->(yS l k).length<=(yS l n).length
 |0,k,h=>by have:k=0:=by omega
            subst this;exact jE _
 |n+1,k,h=>by
  rcases wD n k with h1|h1
  ·have:k=n+1:=by omega
   subst this;exact jE _
  ·have:=zfO l n k h1;simp only[yS,jC];omega
def zk3{m:Mn}{ch:List Int}{l:List Sg}(h:zar m l 0 l=0):∀k,1<=k->k<=l.length->1<=(mkK ch l k).1.length
 |0,h1,_=>by omega
 |k+1,_,hk=>by
  obtain⟨s,hs⟩:∃s,l[k]? =some s:=⟨_,lgg (by omega)⟩;by_cases Z:s.Kind=3
  ·rw[zgp hs Z];simp only[List.length_set];rcases kE k with h0|h0
   ·subst h0;have:=(zax h 1 hk).2 0 s (by omega) hs;unfold sgF at this;rw[j7 (by omega),j6 Z]at this;simp at this
   ·exact zk3 h k h0 (by omega)
  ·rw[zeo hs Z];simp
def zoi{m:Mn}{l:List Sg}(h:zar m l 0 l=0){k:Nat}{s:Sg}(hs:l[k]? =some s)(Z:s.Kind=3):1<=k:=by
 rcases kE k with h0|h0
 ·subst h0;have:=(zax h 1 (j5.1 hs).1).2 0 s (by omega) hs;unfold sgF at this;rw[j7 (by omega),j6 Z]at this;simp at this
 ·exact h0
def ziE{m:Mn}{l:List Sg}(h:ckD m l=0):zar m l 0 l=0:=by
 unfold ckD at h;split at h
 ·exact h
 ·exact absurd h (by assumption)
def chOk(ch:List Int)(L:List (List Int)):Prop:=((L.zip ch).all λp=>decide (p.2∈p.1))=true
instance(ch:List Int)(L:List (List Int)):Decidable (chOk ch L):=inferInstanceAs(Decidable (_=true))
theorem zdv{ch:List Int}{L:List (List Int)}:chOk ch L↔∀(i:Nat)x v,L[i]? =some x->ch[i]? =some v->v∈x:=by
 unfold chOk;rw[jF];constructor
 ·intro h i x v hx hv;have:=h (x,v) (jQ.2 ⟨i,List.getElem?_zip_eq_some.2 ⟨hx,hv⟩⟩);simpa using this
 ·rintro h⟨x,v⟩Z
  obtain⟨i,hi⟩:=jQ.1 Z;obtain⟨h1,V⟩:=List.getElem?_zip_eq_some.1 hi;simpa using h i x v h1 V
def mkE(m:Mn)(l:List Sg)(ch:List Int):Int:=if ckD m l=0 then(if(mnsD m l).length=ch.length/\chOk ch (mnsD m l)then 0 else 2)else ckD m l
def mkC(m:Mn)(l:List Sg)(ch:List Int):List Int:=if mkE m l ch=0 then(mkK ch l l.length).1 else[]
def mkA(m:Mn)(l:List Sg)(ch:List Int):List Bool:=if mkE m l ch=0 then(mkK ch l l.length).2.1 else[]
def ds9:List (List Bool):=[0,1,2,8,16,3,9,17,10,18,24,7,11,19,25,26,15,23,27,31,63,127,255].map λn=>(List.range 8).map λi=>n.testBit i
def st9(ch:List Int)(l:List Sg)(k:Nat)(D:List Bool):St:=
 let b:=λi=>D.getD i false
 ⟨[(2,yc ch),(13,.ptr 13 0 0 0),(14,.ptr 14 0 0 0),(15,.fn 153 [.ptr 13 0 0 0,.ptr 14 0 0 0]),(16,iv ((mkK ch l k).2.2:Int)),(49,sgsA l),(50,iv l.length),(51,iv (k:Int))]++cond (b 0&&!b 2) [(66,.own 101)] []++cond (b 1&&!b 2) [(67,.own 67)] []++cond (b 2&&!b 6) [(68,.own 101)] []++cond (b 3&&!b 5) [(69,.own 102)] []++cond (b 4&&!b 5) [(70,.own 70)] []++cond (b 5&&!b 7) [(71,.own 102)] [],
  cond (b 1&&!b 2) [(67,.row intE [0] 3 1)] []++cond (b 4&&!b 5) [(70,.row zba [false] 4 1)] []++[(13,.box [cond (b 2&&!b 6) .any (.own 101)] 22),(14,.box [cond (b 5&&!b 7) .any (.own 102)] 87),(101,.row intE (cond (b 2) ((mkK ch l k).1++[0]) (mkK ch l k).1) 3 1),(102,.row zba (cond (b 5) ((mkK ch l k).2.1++[false]) (mkK ch l k).2.1) 4 1)]⟩
set_option maxHeartbeats 4000000 in
set_option maxRecDepth 100000 in
def zmf(m:Mn)(l:List Sg)(hl:l.length<=1000)(ch:List Int):Fn prog 101 [mnA m,sgsA l,yc ch] (.tup [yc (mkC m l ch),zaX (mkA m l ch),iv (mkE m l ch)]):=by
 obtain⟨L0,hX,hM⟩:∃L0,(ckD m l=0->L0=mnsD m l)/\Fn prog 148 [mnA m,sgsA l] (.tup [zc7 L0,iv (ckD m l)]):=⟨_,λh=>j6 h,C_dot_Meanings m l hl⟩;refine kR func101 ntmps101 (λg w d=>?_);refine gc hM ?_;refine gd ?_ ?_<;>intro Z
 ·have hE:mkE m l ch=ckD m l:=by unfold mkE;rw[j7 Z]
  have T:mkC m l ch=[]:=by unfold mkC;rw[j7 (by rw[hE];exact Z)]
  have N:mkA m l ch=[]:=by unfold mkA;rw[j7 (by rw[hE];exact Z)]
  apply ye;refine ya ?_;refine yC ?_;refine kQ ?_;refine kM (yd (ts:=[(6,yc []),(7,zaX []),(8,iv (ckD m l))]) (hs:=[])) ?_;refine kY (.many (by decide) (.cons (.tmp rfl (kO ?_)) (.cons (.tmp rfl (kO ?_)) (.cons (.tmp rfl (kO ?_)) .nil))));all_goals(first|exact zE T|exact zE N|exact zE hE)
 have x4:=hX Z;subst x4;have v5:=zgV m l;have H:=ziE Z;have v4:(mnsD m l).length=(yS l l.length).length:=by simp[mnsD]
 refine gd ?_ ?_<;>intro v3
 ·have hE:mkE m l ch=2:=by unfold mkE;rw[j6 Z,j7 (λh=>by have:=h.1;omega)]
  have T:mkC m l ch=[]:=by unfold mkC;rw[j7 (by omega)]
  have N:mkA m l ch=[]:=by unfold mkA;rw[j7 (by omega)]
  apply ye;refine yC ?_;refine kQ ?_;refine kM (yd (ts:=[(6,yc []),(7,zaX []),(8,iv 2)]) (hs:=[])) ?_;refine kY (.many (by decide) (.cons (.tmp rfl (kO ?_)) (.cons (.tmp rfl (kO ?_)) (.cons (.tmp rfl (kO ?_)) .nil))));all_goals(first|exact zE T|exact zE N|exact zE hE)
 apply yk;apply yh;apply ye;refine yC ?_;apply kP;refine zW (λk=>[(1,sgsA l),(2,yc ch),(9,zc7 (mnsD m l)),(33,zc7 (mnsD m l)),(34,iv (mnsD m l).length),(35,iv (k:Int))]) (λk=>[]) (λk=>k<=(mnsD m l).length/\∀i,i<k->∀x v,(mnsD m l)[i]? =some x->ch[i]? =some v->v∈x) ((mnsD m l).length) (λk hk=>?_) (hJ:=by exact⟨by omega,λi h=>absurd h (u0 i)⟩) (h0:=yd);obtain⟨v2,G⟩:=hk;refine gd ?_ ?_<;>intro v0
 ·have V:=@getX _ (mnsD m l) k (by omega);obtain⟨x,hx,u4⟩:=V;have V:=@getX _ ch k (by omega);obtain⟨c,E,v9⟩:=V;have u3:=zkD (j8 hx);refine gc (yV x c (by omega)) ?_;refine gd ?_ ?_<;>intro xT
  ·have hE:mkE m l ch=2:=by unfold mkE;rw[j6 Z,j7 (λh=>xT (zdv.1 h.2 k x c hx E))]
   have T:mkC m l ch=[]:=by unfold mkC;rw[j7 (by omega)]
   have N:mkA m l ch=[]:=by unfold mkA;rw[j7 (by omega)]
   apply ye;refine yC ?_;refine kQ ?_;refine kM (yd (ts:=[(6,yc []),(7,zaX []),(8,iv 2)]) (hs:=[])) ?_;refine kY (.many (by decide) (.cons (.tmp rfl (kO ?_)) (.cons (.tmp rfl (kO ?_)) (.cons (.tmp rfl (kO ?_)) .nil))));all_goals(first|exact zE T|exact zE N|exact zE hE)
  refine gq ?_
  refine yu (k+1) (hJ:=by
   refine⟨by omega,λi hi x1 v1 h1 h2=>?_⟩;rcases wG.1 hi with h|h
   ·exact G i h x1 v1 h1 h2
   ·subst h;rw[hx]at h1;rw[E]at h2;injection h1 with h1;injection h2 with h2;subst h1;subst h2;exact xT)
 ·have hok:chOk ch (mnsD m l):=zdv.2 λi x v hx hv=>G i (by have:=(j5.1 hx).1;omega) x v hx hv
  have hE:mkE m l ch=0:=by unfold mkE;rw[j6 Z,j6 ⟨by omega,hok⟩]
  have T:mkC m l ch=(mkK ch l l.length).1:=by unfold mkC;rw[j6 hE]
  have N:mkA m l ch=(mkK ch l l.length).2.1:=by unfold mkA;rw[j6 hE]
  apply bA;apply ye;refine za ?_;apply yE;refine za ?_;apply kW;apply yh;refine kT (zbo intE 3 1 13 101 22 rfl rfl) ?_;refine kT (zbo zba 4 1 14 102 87 rfl rfl) ?_;apply yf;iterate 2 refine ya ?_
  apply yE;refine yj ?_;apply yh;apply ye;refine yC ?_;apply kP;refine zm (λk=>[(2,yc ch),(13,.ptr 13 0 0 0),(14,.ptr 14 0 0 0),(15,.fn 153 [.ptr 13 0 0 0,.ptr 14 0 0 0]),(16,iv ((mkK ch l k).2.2:Int)),(49,sgsA l),(50,iv l.length),(51,iv (k:Int))]) (λk=>[(13,.box [.own 101] 22),(14,.box [.own 102] 87),(101,.row intE (mkK ch l k).1 3 1),(102,.row zba (mkK ch l k).2.1 4 1)]) l.length (λk hk=>?_) (h0:=yd);refine gd ?_ ?_<;>intro u2
  ·have V:=@getX _ l k (by omega);obtain⟨s,hs,u1⟩:=V;obtain⟨k9,k8,k7⟩:=ze5 ch l k;refine gd ?_ ?_<;>intro U
   ·have J:=zgp (ch:=ch) hs U;have k6:=zfO l l.length (k+1) (by omega);have k5:(yS l (k+1)).length=(yS l k).length+1:=by simp[yS,hs,U]
    have x3:=zoi H hs U;have v8:=zk3 (ch:=ch) H k x3 (by omega);have k4:ch[((mkK ch l k).2.2:Int).toNat]? =some (ch.getD (mkK ch l k).2.2 0):=by rw[wN,jD,lgg (by omega)];rfl
    have x2:(mkK ch l k).1.set (((mkK ch l k).1.length:Int)-1).toNat (ch.getD (mkK ch l k).2.2 0)=(mkK ch l (k+1)).1:=by rw[J]
    have x0:(mkK ch l k).2.1.set (((mkK ch l k).2.1.length:Int)-1).toNat (decide (ch.getD (mkK ch l k).2.2 0=0))=(mkK ch l (k+1)).2.1:=by rw[J]
    have w9:((mkK ch l k).2.2:Int)+1=((mkK ch l (k+1)).2.2:Int):=by rw[J];simp
    apply ye;(iterate 5 refine ya ?_);refine zby [(2000000,13),(2000001,14),(2000002,101),(2000003,102)] (zjS (ch.getD (mkK ch l k).2.2 0) (mkK ch l k).1 (mkK ch l k).2.1 (by omega) (by omega) (by omega) (by omega)) rfl rfl rfl (bC _) rfl rfl ⟨⟨_,_,rfl,rfl,bD _,rfl⟩,⟨_,_,rfl,rfl,bD _,rfl⟩,⟨_,_,rfl,rfl,bD _,rfl⟩,⟨_,_,rfl,rfl,bD _,rfl⟩,trivial⟩ rfl rfl rfl rfl ?_;refine gq ?_;refine yu (k+1)
   have J:=zeo (ch:=ch) hs U;have x2:(mkK ch l k).1++[0]=(mkK ch l (k+1)).1:=by rw[J]
   have x0:(mkK ch l k).2.1++[false]=(mkK ch l (k+1)).2.1:=by rw[J]
   have w9:((mkK ch l k).2.2:Int)=((mkK ch l (k+1)).2.2:Int):=by rw[J]
   apply yk;refine zsD (ds9.map (st9 ch l k)) ds9 [(0,0,1),(0,1,2),(0,3,3),(0,4,4),(1,1,5),(1,3,6),(1,4,7),(2,0,5),(2,3,8),(2,4,9),(3,0,6),(3,1,8),(3,4,10),(4,0,7),(4,1,9),(4,3,10),(5,2,11),(5,3,12),(5,4,13),(6,1,12),(6,4,14),(7,1,13),(7,3,14),(8,0,12),(8,4,15),(9,0,13),(9,3,15),(10,0,14),(10,1,15),(11,3,16),(11,4,17),(12,2,16),(12,4,18),(13,2,17),(13,3,18),(14,1,18),(15,0,18),(16,4,19),(17,3,19),(18,2,19),(19,5,20),(20,6,21),(21,7,22)] 22 mo rfl rfl yd (by kernel_rfl) rfl (by kernel_rfl) rfl ?_ ?_
   ·repeat'(first|exact True.intro|refine⟨⟨_,_,rfl,rfl,yp rfl (yz.imp (yL (kK (zal rfl rfl rfl ty22)) rfl rfl) yd)⟩,?_⟩|refine⟨⟨_,_,rfl,rfl,yp rfl (yz.imp (yL (zaj (k:=67) (enc:=intE) (l:=[0]) sl22 ty3 ze3 (by decide) rfl rfl rfl rfl (by decide) (by decide) (λ_=>rfl) rfl) rfl rfl) yd)⟩,?_⟩|refine⟨⟨_,_,rfl,rfl,yp rfl (yz.imp (yL (kK (zal rfl rfl rfl ty87)) rfl rfl) yd)⟩,?_⟩|refine⟨⟨_,_,rfl,rfl,yp rfl (yz.imp (yL (zaj (k:=70) (enc:=zba) (l:=[false]) sl87 ty4 ze4 (by decide) rfl rfl rfl rfl (by decide) (by decide) (λ_=>rfl) rfl) rfl rfl) yd)⟩,?_⟩|refine⟨⟨_,_,rfl,rfl,yp rfl (yz.imp (zd5 (enc:=intE) (l:=(mkK ch l k).1) (l2:=[0]) rfl rfl rfl rfl sl22 ti3 (by decide) (by decide) (λ_=>rfl) (λ_=>rfl) (by simp;omega) rfl) yd)⟩,?_⟩|refine⟨⟨_,_,rfl,rfl,yp rfl (yz.imp (zd5 (enc:=zba) (l:=(mkK ch l k).2.1) (l2:=[false]) rfl rfl rfl rfl sl87 ti4 (by decide) (by decide) (λ_=>rfl) (λ_=>rfl) (by simp;omega) rfl) yd)⟩,?_⟩|refine⟨⟨_,_,rfl,rfl,yp rfl (yz.imp (zU rfl rfl rfl rfl ty22 (ltB rfl)) yd)⟩,?_⟩|refine⟨⟨_,_,rfl,rfl,yp rfl (yz.imp (zU rfl rfl rfl rfl ty87 (ltB rfl)) yd)⟩,?_⟩)
   refine gq ?_;refine yu (k+1)
  ·have w2:k=l.length:=by omega
   subst w2;refine gq ?_;refine yW [6,7,8,73,74] [0,0,1,7,15] mo ?_;(iterate 5 refine yb ?_);refine yI ?_;apply kW;refine kQ ?_;refine kM ((kL (k:=101) rfl).trans (kL (k:=102) rfl)) ?_;refine kY (.many (by decide) (.cons (.tmp rfl (kO ?_)) (.cons (.tmp rfl (kO ?_)) (.cons (.tmp rfl (kO ?_)) .nil))));all_goals(first|exact zE T|exact zE N|exact zE hE)
end
end Go.Rse
