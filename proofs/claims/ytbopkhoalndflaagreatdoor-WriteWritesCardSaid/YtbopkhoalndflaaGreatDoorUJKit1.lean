/-
  Walks.
-/
import Derived.Test.YtbopkhoalndflaaGreatDoorUJLvl15
set_option linter.all false
namespace Go.Rse
open Go Go.Proofs Go.Proofs.Tryz
section
attribute [local irreducible] Pur yA yC Ex X Fn Imp LeV LeB FnO It yH
def zpz{α:Type}{a b:List α}{k:Nat}{x:α}(Z:a[k]? =some x)(V:b[k]? =some x)(h:a.take k=b.take k):a.take (k+1)=b.take (k+1):=by
 rw[jA,jA,Z,V,h]
def zsp{α:Type}{a b:List α}{k:Nat}(hl:a.length=b.length)(Z:a.length<=k)(h:a.take k=b.take k):a=b:=by
 rwa[wI Z,wI (by omega)]at h
def zx8{α:Type}{a b:List α}{k:Nat}{x y:α}(V:a[k]? =some x)(Z:b[k]? =some y)(h:x≠y):a≠b:=λe=>by
 subst e;rw[V]at Z;injection Z with Z;exact h Z
def zsq{l:List Int}{x:Int}(h:∀(i:Nat)u,i<l.length->l[i]? =some u->¬u=x):¬x∈l:=λhx=>by
 obtain⟨i,hi⟩:=jS.1 hx;exact h i x (j1.1 hi).1 hi rfl
attribute [local irreducible] gI
def y6(a b:List Sg)(hl:a.length<=4000000000):Fn prog 23 [sgsA a,sgsA b] (.bool (decide (a=b))):=by
 refine kC func23 ntmps23 (λg w d=>?_);refine gd ?_ ?_<;>intro T
 ·refine gq ?_;all_goals(congr 1;exact(jD λe=>by subst e;omega).symm)
 apply yl;apply yf;apply ye;refine yi ?_;apply kA;refine zV (λk=>[(0,sgsA a),(1,sgsA b),(5,iv (k:Int))]) (λk=>[]) (λk=>k<=a.length/\a.take k=b.take k) a.length (λk Q=>?_) (hJ:=by exact⟨by omega,rfl⟩) (h0:=yd);obtain⟨N,V⟩:=Q;refine gd ?_ ?_<;>intro J
 ·obtain⟨x,hx⟩:∃x,a[k]? =some x:=⟨_,lgg (by omega)⟩;have I:a[(k:Int).toNat]? =some x:=by simpa using hx
  obtain⟨y,U⟩:∃y,b[k]? =some y:=⟨_,lgg (by omega)⟩;have H:b[(k:Int).toNat]? =some y:=by simpa using U
  refine gq ?_;refine yQ [17,18,19,20,21,22,23,24,25] [0,0,3,7,0,0,48,112,255] mo ?_;iterate 9 refine yb ?_
  refine yx ?_;refine gd ?_ ?_<;>intro Z
  ·refine gq ?_;all_goals(congr 1;exact(jD (zx8 hx U (by simpa using Z))).symm)
  refine gq ?_;refine yo (k+1) (hJ:=by exact⟨by omega,zpz hx (by rw[U];congr 1;first|exact(by simpa using Z:x=y).symm|(simp at Z;exact Z.symm)) V⟩)
 ·refine gq ?_;all_goals(congr 1;exact(jH (zsp (by omega) (by omega) V)).symm)
def zcp(l:List Sg)(hl:l.length<=4000):Fn prog 17 [sgsA l] (sgsA l):=by
 refine kC func17 ntmps17 (λg w d=>?_);refine gq ?_;refine yz sgE [] ?_;refine ya ?_;refine kI ?_;refine yi ?_;refine kE ?_;refine k8 (k9 (k:=3) rfl) ?_;refine gq ?_;all_goals(first|rfl|(simp;rfl))
def zfS(n q:Int)(N:0<=n/\n<=4611686018427387904)(J:1<=q/\q<=4611686018427387904):Fn prog 88 [iv n,iv q] (tmA ⟨n/gI n q,q/gI n q⟩):=by
 refine kC func88 ntmps88 (λg w d=>?_);refine gq ?_;refine zcw (ι:=Int×Int) (λ(p:Int×Int)=>[(0,iv n),(1,iv q),(4,.ptr 4 0 0 0),(5,iv p.1),(6,iv p.2)]) (λ(p:Int×Int)=>[(4,.box [iv 0,iv 0] 83)]) (λ(p:Int×Int)=>0<=p.1/\0<=p.2/\gI p.1 p.2=gI n q/\(0<p.1\/0<p.2)) (λ(p:Int×Int)=>p.2.toNat) (n,q) (λp V=>?_) (hJ:=by exact⟨by dsimp only;omega,by dsimp only;omega,rfl,by dsimp only;omega⟩);obtain⟨a,b⟩:=p;obtain⟨k1,k2,k3,k4⟩:=V;dsimp only at*
 refine gd ?_ ?_<;>intro U
 ·refine gq ?_;refine yo ((b,a%b)) (hJ:=by exact⟨by dsimp only;omega,by dsimp only;exact vD _ (by omega),by dsimp only;rw[zlB (by omega) (by omega)];exact k3,by dsimp only;omega⟩) (hm:=by dsimp only;have:=uN a (show 0<b by omega);omega)
 ·have Z:b=0:=by omega
  subst Z;rw[zlA k1]at k3;subst k3;have T:=zdd (n:=n) (d:=q) (by omega);refine gd ?_ ?_<;>intro Q
  ·omega
  refine gq ?_;refine yQ [20,21,22,23,24,25] [0,0,3,0,0,24,63,127] mo ?_;iterate 6 refine yb ?_
  refine yx ?_;refine gq ?_;refine kH (.one (.cellA rfl rfl rfl rfl ty83 (kB ?_)));all_goals rfl
end
section
end
section
end
section
def zsr{m:Mn}{l:List Sg}(V:ckM m=0)(Z:ckD m l=0):mkE m l (zh m l)=0:=by
 unfold mkE;rw[j4 Z,j4 (zyP (zsS V Z))]
def zss{m:Mn}{l:List Sg}(Z:ckD m l=0):duE m l (twos (prL m l).length)=0:=by
 unfold duE;rw[j4 Z,j4 ⟨zc7 _,by unfold mnOk twos;rw[jF];intro x hx;rw[(List.mem_replicate.1 hx).2];rfl⟩]
end
section
attribute [local irreducible] Pur yA yC Ex X Fn Imp LeV LeB FnO It yH
attribute [local irreducible] mkC mkA mkE duV duE itK itOf ckD mulV mulE
set_option maxHeartbeats 4000000 in
def zk6(m:Mn)(l:List Sg)(ch mi:List Int)(hl:l.length<=1000)(w2:mi.length<=1000):Fn prog 138 [mnA m,sgsA l,yc ch,yc mi] (.tup [itsA (itmV m l ch mi),iv (itmE m l ch mi)]):=by
 refine kC func138 ntmps138 (λg w d=>?_);refine gc (zaO m l hl) ?_;refine gd ?_ ?_<;>intro J
 ·have hE:itmE m l ch mi=ckD m l:=by rw[zne (by rw[znd J];exact J),znd J]
  have H:itmV m l ch mi=[]:=ziR (by rw[hE];exact J);apply ye;refine yq ?_;refine kE ?_;refine k8 (yd (ts:=[(8,itsA []),(9,iv (ckD m l))]) (hs:=[])) ?_;refine yh ?_ ?_;all_goals(first|exact zE H|exact zE hE)
 refine gc (zlX m l hl ch) ?_;refine gd ?_ ?_<;>intro U
 ·have hE:itmE m l ch mi=mkE m l ch:=zne U;have H:itmV m l ch mi=[]:=ziR (by rw[hE];exact U);apply ye;refine yq ?_;refine kE ?_;refine k8 (yd (ts:=[(8,itsA []),(9,iv (mkE m l ch))]) (hs:=[])) ?_;refine yh ?_ ?_;all_goals(first|exact zE H|exact zE hE)
 refine gc (zk2 m l mi hl w2) ?_;refine gd ?_ ?_<;>intro E
 ·have hE:itmE m l ch mi=duE m l mi:=zk4 U;have H:itmV m l ch mi=[]:=ziR (by rw[hE];exact E);apply ye;refine yq ?_;refine kE ?_;refine k8 (yd (ts:=[(8,itsA []),(9,iv (duE m l mi))]) (hs:=[])) ?_;refine yh ?_ ?_;all_goals(first|exact zE H|exact zE hE)
 have hE:itmE m l ch mi=0:=(zk4 U).trans E;have H:=znf hE;apply yl;apply ye;refine yi ?_;iterate 2 apply yf
 refine kJ (yE itE 183 12 15 201 rfl rfl) ?_;apply yj;refine yq ?_;apply kA;have v3:=zuL l (mkC m l ch) (mkA m l ch) (duV m l mi);refine ze (λk=>[(11,yc (mkC m l ch)),(12,zaV (mkA m l ch)),(14,tmsA (duV m l mi)),(15,.own 201),(47,sgsA l),(48,iv l.length),(49,iv (k:Int))]) (λk=>[(201,.row itE (itK l (mkC m l ch) (mkA m l ch) (duV m l mi) k) 183 12)]) l.length (λk hk=>?_) (h0:=yd);refine gd ?_ ?_<;>intro v0
 ·obtain⟨s,hs⟩:∃s,l[k]? =some s:=⟨_,lgg (by omega)⟩;have u3:l[(k:Int).toNat]? =some s:=by simpa using hs
  have xT:=ziQ l (mkC m l ch) (mkA m l ch) (duV m l mi) k;have u2:=zk3 l k;refine gd ?_ ?_<;>intro x4
  ·have V:=zn1 (c:=mkC m l ch) (a:=mkA m l ch) (d:=duV m l mi) hs x4;refine gq ?_;refine yo (k+1)
  obtain⟨x,y,z,hx,hy,hz,x2,u1,hm,v1,v8⟩:=zuN U E hs x4;have V:=zp4 hs x4 hx hy hz;have k5:(mkC m l ch)[((itK l (mkC m l ch) (mkA m l ch) (duV m l mi) k).length:Int).toNat]? =some x:=by rw[xT];simpa using hx
  have k4:(mkA m l ch)[((itK l (mkC m l ch) (mkA m l ch) (duV m l mi) k).length:Int).toNat]? =some y:=by rw[xT];simpa using hy
  have k3:(duV m l mi)[((itK l (mkC m l ch) (mkA m l ch) (duV m l mi) k).length:Int).toNat]? =some z:=by rw[xT];simpa using hz
  apply yl;apply ye;refine yq ?_;refine zck ⟨[(11,yc (mkC m l ch)),(12,zaV (mkA m l ch)),(14,tmsA (duV m l mi)),(15,.own 201),(18,iv ((itK l (mkC m l ch) (mkA m l ch) (duV m l mi) k).length:Int)),(19,.ptr 19 0 0 0),(47,sgsA l),(48,iv l.length),(49,iv (k:Int))],[(201,.row itE (itK l (mkC m l ch) (mkA m l ch) (duV m l mi) k) 183 12),(19,.box [iv k,iv s.Value,.bool (decide (s.Kind=2)),.bool (decide (s.Kind=1)&&s.Color),.bool false,iv x,iv z.N,iv z.D,iv 0,iv 0,iv 0,iv 0] 183)]⟩ (λx1=>?_) ?_
  ·refine yQ [19,59,60,61,62,63,64,65,66,67,68,69,70,71,72,73,74,75,76,77,78,79,80] [0,0,2,0,8,24,0,64,192,448,960,1984,4032,0,0,24576,57344,0,0,393216,917504,2097151,0,8388607] mo ?_;(iterate 10 refine yb ?_);(iterate 2 refine kM ?_);(iterate 10 refine yb ?_);refine ChM.step rfl rfl rfl (zw (k:=19) zho) rfl ?_;refine yx ?_;refine kI ?_;apply kL;exact kJ yg x1
  refine zck ⟨[(11,yc (mkC m l ch)),(12,zaV (mkA m l ch)),(14,tmsA (duV m l mi)),(15,.own 201),(18,iv ((itK l (mkC m l ch) (mkA m l ch) (duV m l mi) k).length:Int)),(19,.ptr 19 0 0 0),(47,sgsA l),(48,iv l.length),(49,iv (k:Int))],[(201,.row itE (itK l (mkC m l ch) (mkA m l ch) (duV m l mi) k) 183 12),(19,.box [iv k,iv s.Value,.bool (decide (s.Kind=2)),.bool (decide (s.Kind=1)&&s.Color),.bool false,iv x,iv z.N,iv z.D,iv 0,iv 1,iv 0,iv 1] 183)]⟩ (λx0=>?_) ?_
  ·apply yj;(iterate 3 refine ya ?_);refine kI ?_;refine ya ?_;refine kI ?_;apply kL;exact kJ yg x0
  refine gd ?_ ?_<;>intro T
  ·rw[←zx6 T]at V;refine gc (zeg z ⟨3,2⟩) ?_;refine gd ?_ ?_<;>intro v9
   ·exact absurd x2 v9
   refine gq ?_;refine yz itE [itL k s true x (mulV z ⟨3,2⟩)] ?_;refine gq ?_;refine yo (k+1)
  refine gd ?_ ?_<;>intro x3
  ·refine gd ?_ ?_<;>intro v5
   ·rw[←zp7 T (.inl x3)]at V;refine gq ?_;refine yz itE [itL k s true x z] ?_;refine gq ?_;refine yo (k+1)
   exact absurd x3 v5
  ·refine gd ?_ ?_<;>intro Q
   ·refine gd ?_ ?_<;>intro Z
    ·rw[←zp7 T (.inr (.inl (by unfold clr;rw[jH Z.1,Z.2];rfl)))]at V;refine gq ?_;refine yz itE [itL k s true x z] ?_;refine gq ?_;refine yo (k+1)
    exact absurd Z (λZ=>Z.elim (λh=>h Q.1) (λh=>by rw[Q.2]at h;cases h))
   ·refine gd ?_ ?_<;>intro I
    ·rw[←zp7 T (.inr (.inr I))]at V;refine gq ?_;refine yz itE [itL k s true x z] ?_;refine gq ?_;refine yo (k+1)
    rw[←zx7 T x3 (by unfold clr;rcases Q with h|h<;>simp[h]) I]at V;refine gq ?_;refine yz itE [itL k s false x z] ?_;refine gq ?_;refine yo (k+1)
 ·have v4:k=l.length:=by omega
  subst v4;apply kK;apply ye;refine yq ?_;refine kE ?_;refine k8 (k9 (k:=201) rfl) ?_;refine yh ?_ ?_;all_goals(first|exact zE H|exact zE hE)
end
section
attribute [local irreducible] Pur yA yC Ex X Fn Imp LeV LeB FnO It yH
def zhq(l:List Int)(x:Int)(hl:l.length<=4000000000):Fn prog 284 [yc l,iv x] (.bool (decide (x∈l))):=by
 refine kC func284 ntmps284 (λg w d=>?_);apply ye;refine yi ?_;apply yf;apply ye;refine yi ?_;apply kA;refine zV (λk=>[(0,yc l),(1,iv x),(5,iv (k:Int))]) (λk=>[]) (λk=>k<=l.length/\∀(i:Nat)u,i<k->l[i]? =some u->¬u=x) l.length (λk T=>?_) (hJ:=by exact⟨by omega,λi u h=>absurd h (wU i)⟩) (h0:=yd);obtain⟨Q,Z⟩:=T;refine gd ?_ ?_<;>intro N
 ·obtain⟨v,hv⟩:∃v,l[k]? =some v:=⟨_,lgg (by omega)⟩;have J:l[(k:Int).toNat]? =some v:=by simpa using hv
  refine gd ?_ ?_<;>intro V
  ·refine gq ?_;all_goals(congr 1;exact(jH (by rw[←V];exact j5 hv)).symm)
  refine gq ?_
  refine yo (k+1) (hJ:=by
   refine⟨by omega,λi u hi U=>?_⟩;rcases wA.1 hi with h|h
   ·exact Z i u h U
   ·subst h;rw[hv]at U;injection U with U;subst U;exact V)
 ·refine gq ?_;all_goals(congr 1;exact(jD (zsq λi u hi=>Z i u (by omega))).symm)
set_option maxHeartbeats 4000000 in
def zfF(m:Mn)(l:List Sg)(hl:l.length<=1000)(ch:List Int)(v5:ch.length<=4000000):Fn prog 239 [mnA m,sgsA l,yc ch] (.tup [yc (mkC m l ch),zaV (mkA m l ch),iv (mkE m l ch)]):=by
 obtain⟨L0,hX,hM⟩:∃L0,(ckD m l=0->L0=mnsD m l)/\Fn prog 283 [mnA m,sgsA l] (.tup [zdr L0,iv (ckD m l)]):=⟨_,λh=>j4 h,C_tactusref09_Meanings' m l hl⟩;refine kC func239 ntmps239 (λg w d=>?_);refine gc hM ?_;refine gd ?_ ?_<;>intro Z
 ·have hE:mkE m l ch=ckD m l:=by unfold mkE;rw[j3 Z]
  have U:mkC m l ch=[]:=by unfold mkC;rw[j3 (by rw[hE];exact Z)]
  have T:mkA m l ch=[]:=by unfold mkA;rw[j3 (by rw[hE];exact Z)]
  apply ye;refine ya ?_;refine yq ?_;refine kE ?_;refine k8 (yd (ts:=[(6,yc []),(7,zaV []),(8,iv (ckD m l))]) (hs:=[])) ?_;refine kH (.many (by decide) (.cons (.tmp rfl (kB ?_)) (.cons (.tmp rfl (kB ?_)) (.cons (.tmp rfl (kB ?_)) .nil))));all_goals(first|exact zE U|exact zE T|exact zE hE)
 have xT:=hX Z;subst xT;have v4:=zgB m l;have J:=ziO Z;have v3:(mnsD m l).length=(yU l l.length).length:=by simp[mnsD]
 refine gd ?_ ?_<;>intro v0
 ·have hE:mkE m l ch=2:=by unfold mkE;rw[j4 Z,j3 (λh=>by have:=h.1;omega)]
  have U:mkC m l ch=[]:=by unfold mkC;rw[j3 (by omega)]
  have T:mkA m l ch=[]:=by unfold mkA;rw[j3 (by omega)]
  apply ye;refine yq ?_;refine kE ?_;refine k8 (yd (ts:=[(6,yc []),(7,zaV []),(8,iv 2)]) (hs:=[])) ?_;refine kH (.many (by decide) (.cons (.tmp rfl (kB ?_)) (.cons (.tmp rfl (kB ?_)) (.cons (.tmp rfl (kB ?_)) .nil))));all_goals(first|exact zE U|exact zE T|exact zE hE)
 apply yl;apply yf;apply ye;refine yi ?_;apply kA;refine zV (λk=>[(1,sgsA l),(2,yc ch),(9,zdr (mnsD m l)),(11,iv (k:Int))]) (λk=>[]) (λk=>k<=(mnsD m l).length/\∀i,i<k->∀x v,(mnsD m l)[i]? =some x->ch[i]? =some v->v∈x) ((mnsD m l).length) (λk hk=>?_) (hJ:=by exact⟨by omega,λi h=>absurd h (wU i)⟩) (h0:=yd);obtain⟨u3,I⟩:=hk;refine gd ?_ ?_<;>intro u2
 ·obtain⟨x,hx⟩:∃x,(mnsD m l)[k]? =some x:=⟨_,lgg (by omega)⟩;have u1:(mnsD m l)[(k:Int).toNat]? =some x:=by simpa using hx
  obtain⟨c,Q⟩:∃c,ch[k]? =some c:=⟨_,lgg (by omega)⟩;have v9:ch[(k:Int).toNat]? =some c:=by simpa using Q
  have k5:=zkh (j5 hx);refine gq ?_;refine yQ [36,37,38,39,40,41,42,43,44,45] [0,0,3,7,0,0,48,112,255,511] mo ?_;iterate 8 refine yb ?_
  refine yI (zhq x c (by omega)) ?_;refine yb ?_;refine yx ?_;refine gd ?_ ?_<;>intro H
  ·have hE:mkE m l ch=2:=by unfold mkE;rw[j4 Z,j3 (λh=>H (zeH.1 h.2 k x c hx Q))]
   have U:mkC m l ch=[]:=by unfold mkC;rw[j3 (by omega)]
   have T:mkA m l ch=[]:=by unfold mkA;rw[j3 (by omega)]
   apply ye;refine yq ?_;refine kE ?_;refine k8 (yd (ts:=[(6,yc []),(7,zaV []),(8,iv 2)]) (hs:=[])) ?_;refine kH (.many (by decide) (.cons (.tmp rfl (kB ?_)) (.cons (.tmp rfl (kB ?_)) (.cons (.tmp rfl (kB ?_)) .nil))));all_goals(first|exact zE U|exact zE T|exact zE hE)
  refine gq ?_
  refine yo (k+1) (hJ:=by
   refine⟨by omega,λi hi x1 v1 E h2=>?_⟩;rcases wA.1 hi with h|h
   ·exact I i h x1 v1 E h2
   ·subst h;rw[hx]at E;rw[Q]at h2;injection E with E;injection h2 with h2;subst E;subst h2;exact H)
 ·have hok:chOk ch (mnsD m l):=zeH.2 λi x v hx hv=>I i (by have:=(j1.1 hx).1;omega) x v hx hv
  have hE:mkE m l ch=0:=by unfold mkE;rw[j4 Z,j4 ⟨by omega,hok⟩]
  have U:mkC m l ch=(mkK ch l l.length).1:=by unfold mkC;rw[j4 hE]
  have T:mkA m l ch=(mkK ch l l.length).2.1:=by unfold mkA;rw[j4 hE]
  apply kK;apply ye;refine ya ?_;apply yG;refine ya ?_;apply yG;refine yi ?_;iterate 2 apply yf
  refine kJ (yE intE 3 1 12 101 rfl rfl) ?_;refine kJ (yE zbc 4 1 13 102 rfl rfl) ?_;apply yj;refine yi ?_;apply kA;refine ze (λk=>[(1,sgsA l),(2,yc ch),(12,.own 101),(13,.own 102),(14,iv ((mkK ch l k).2.2:Int)),(15,iv (k:Int))]) (λk=>[(101,.row intE (mkK ch l k).1 3 1),(102,.row zbc (mkK ch l k).2.1 4 1)]) l.length (λk hk=>?_) (h0:=yd);refine gd ?_ ?_<;>intro k4
  ·obtain⟨s,hs⟩:∃s,l[k]? =some s:=⟨_,lgg (by omega)⟩;have k3:l[(k:Int).toNat]? =some s:=by simpa using hs
   obtain⟨j2,j0,hZ⟩:=zim ch l k;refine gd ?_ ?_<;>intro V
   ·have N:=zgC (ch:=ch) hs V;have x4:(mkK ch l k).1++[0]=(mkK ch l (k+1)).1:=by rw[N]
    have x3:(mkK ch l k).2.1++[false]=(mkK ch l (k+1)).2.1:=by rw[N]
    have x2:((mkK ch l k).2.2:Int)=((mkK ch l (k+1)).2.2:Int):=by rw[N]
    refine gq ?_;refine yz intE [_] ?_;refine gq ?_;refine yz zbc [_] ?_;refine gq ?_;refine yo (k+1)
   have N:=zil (ch:=ch) hs V;have hY:=zf6 l l.length (k+1) (by omega);have hW:(yU l (k+1)).length=(yU l k).length+1:=by simp[yU,hs,V]
   have x0:=znX J hs V;have v8:=zkY (ch:=ch) J k x0 (by omega);have hU:ch[((mkK ch l k).2.2:Int).toNat]? =some (ch.getD (mkK ch l k).2.2 0):=by rw[wC,j8,lgg (by omega)];rfl
   have x4:(mkK ch l k).1.set (((mkK ch l k).1.length:Int)-1).toNat (ch.getD (mkK ch l k).2.2 0)=(mkK ch l (k+1)).1:=by rw[N]
   have x3:(mkK ch l k).2.1.set (((mkK ch l k).2.1.length:Int)-1).toNat (decide (ch.getD (mkK ch l k).2.2 0=0))=(mkK ch l (k+1)).2.1:=by rw[N]
   have x2:((mkK ch l k).2.2:Int)+1=((mkK ch l (k+1)).2.2:Int):=by rw[N];simp
   refine gq ?_;refine yo (k+1)
  ·have w2:k=l.length:=by omega
   subst w2;apply kK;apply ye;(iterate 2 refine ya ?_);refine yq ?_;refine kE ?_;refine k8 ((k9 (k:=101) rfl).trans (k9 (k:=102) rfl)) ?_;refine kH (.many (by decide) (.cons (.tmp rfl (kB ?_)) (.cons (.tmp rfl (kB ?_)) (.cons (.tmp rfl (kB ?_)) .nil))));all_goals(first|exact zE U|exact zE T|exact zE hE)
attribute [local irreducible] mnsD ckD
end
section
attribute [local irreducible] Pur yA yC Ex X Fn Imp LeV LeB FnO It yH
def rmOk(m:Mn)(v:Int):Bool:=decide (rmV (yy m v) ⟨3,2⟩=mulV (yy m v) ⟨3,2⟩)&&decide (rmV (durT m v) ⟨3,2⟩=mulV (durT m v) ⟨3,2⟩)
def zqd:zgF rmOk=true:=by kernel_rfl
def zx9{m:Mn}{s:Sg}{z:Tm}(hm:ckM m=0)(Z:1<=s.Value)(V:s.Value<=8)(U:z=bsT m s\/z=⟨3,2⟩\/z=⟨1,2⟩):rmV z ⟨3,2⟩=mulV z ⟨3,2⟩:=by
 rcases U with rfl|rfl|rfl
 ·have h:=zcd zqd hm Z V;unfold rmOk at h;simp only[j7,w9]at h;unfold bsT;split
  ·exact h.2
  ·exact h.1
 ·decide+kernel
 ·decide+kernel
attribute [local irreducible] mkC mkA mkE duV duE itK itOf ckD mulV mulE rmV rmE
set_option maxHeartbeats 4000000 in
def zfG(m:Mn)(l:List Sg)(ch mi:List Int)(hl:l.length<=1000)(x3:ch.length<=4000000)(x2:mi.length<=1000):Fn prog 184 [mnA m,sgsA l,yc ch,yc mi] (.tup [itsA (itmV m l ch mi),iv (itmE m l ch mi)]):=by
 refine kC func184 ntmps184 (λg w d=>?_);refine gc (zfF m l hl ch x3) ?_;refine gd ?_ ?_<;>intro Z
 ·have hE:itmE m l ch mi=mkE m l ch:=zne Z;have I:itmV m l ch mi=[]:=ziR (by rw[hE];exact Z);apply ye;refine yq ?_;refine kE ?_;refine k8 (yd (ts:=[(8,itsA []),(9,iv (mkE m l ch))]) (hs:=[])) ?_;refine yh ?_ ?_;all_goals(first|exact zE I|exact zE hE)
 refine gc (zf8 m l mi hl x2) ?_;refine gd ?_ ?_<;>intro Q
 ·have hE:itmE m l ch mi=duE m l mi:=zk4 Z;have I:itmV m l ch mi=[]:=ziR (by rw[hE];exact Q);apply ye;refine yq ?_;refine kE ?_;refine k8 (yd (ts:=[(8,itsA []),(9,iv (duE m l mi))]) (hs:=[])) ?_;refine yh ?_ ?_;all_goals(first|exact zE I|exact zE hE)
 have hE:itmE m l ch mi=0:=(zk4 Z).trans Q;have I:=znf hE;apply yl;apply ye;refine yi ?_;iterate 2 apply yf
 refine kJ (yE itE 183 12 14 201 rfl rfl) ?_;apply yj;refine yi ?_;apply kA;have v5:=zuL l (mkC m l ch) (mkA m l ch) (duV m l mi);refine ze (λk=>[(1,sgsA l),(10,yc (mkC m l ch)),(11,zaV (mkA m l ch)),(13,tmsA (duV m l mi)),(14,.own 201),(15,iv (k:Int))]) (λk=>[(201,.row itE (itK l (mkC m l ch) (mkA m l ch) (duV m l mi) k) 183 12)]) l.length (λk hk=>?_) (h0:=yd);refine gd ?_ ?_<;>intro v4
 ·obtain⟨s,hs⟩:∃s,l[k]? =some s:=⟨_,lgg (by omega)⟩;have v3:l[(k:Int).toNat]? =some s:=by simpa using hs
  have J:=ziQ l (mkC m l ch) (mkA m l ch) (duV m l mi) k;have v0:=zk3 l k;refine gd ?_ ?_<;>intro V
  ·have H:=zn1 (c:=mkC m l ch) (a:=mkA m l ch) (d:=duV m l mi) hs V;refine gq ?_;refine yo (k+1)
  obtain⟨x,y,z,hx,hy,hz,w2,u3,hm,v1,v8,x1⟩:=zuN Z Q hs V;have H:=zp4 hs V hx hy hz;have u2:(mkC m l ch)[((itK l (mkC m l ch) (mkA m l ch) (duV m l mi) k).length:Int).toNat]? =some x:=by rw[J];simpa using hx
  have u1:(mkA m l ch)[((itK l (mkC m l ch) (mkA m l ch) (duV m l mi) k).length:Int).toNat]? =some y:=by rw[J];simpa using hy
  have k5:(duV m l mi)[((itK l (mkC m l ch) (mkA m l ch) (duV m l mi) k).length:Int).toNat]? =some z:=by rw[J];simpa using hz
  have U:=zsk (zp6 Z) hs V;have v9:[iv k,iv s.Value,.bool (decide (s.Kind=2)),.bool (s.Color&&!decide (s.Kind=2)),.bool false,iv x,iv z.N,iv z.D,iv 0,iv 1,iv 0,iv 1]=[iv k,iv s.Value,.bool (decide (s.Kind=2)),.bool (decide (s.Kind=1)&&s.Color),.bool false,iv x,iv z.N,iv z.D,iv 0,iv 1,iv 0,iv 1]:=by rw[zvU U]
  have T:=zg1 z ⟨3,2⟩;rw[zx9 hm v1 v8 x1]at T;rw[←zx5 U]at H;apply yl;apply ye;refine yq ?_;refine zck ⟨[(1,sgsA l),(10,yc (mkC m l ch)),(11,zaV (mkA m l ch)),(13,tmsA (duV m l mi)),(14,.own 201),(15,iv (k:Int)),(16,iv ((itK l (mkC m l ch) (mkA m l ch) (duV m l mi) k).length:Int)),(17,.ptr 17 0 0 0)],[(201,.row itE (itK l (mkC m l ch) (mkA m l ch) (duV m l mi) k) 183 12),(17,.box [iv k,iv s.Value,.bool (decide (s.Kind=2)),.bool false,.bool false,iv x,iv z.N,iv z.D,iv 0,iv 1,iv 0,iv 1] 183)]⟩ (λE=>?_) ?_
  ·refine yQ [17,53,54,55,56,57,58,59,60,61,62,63,64,65,66,67,68,69,70,71,72,73,74,75] [0,0,0,6,14,30,0,0,192,448,960,1984,0,0,12288,28672,0,0,196608,458752,0,0,4194303,0,16777215] mo ?_;(iterate 23 refine yb ?_);refine ChM.step rfl rfl rfl (zw (k:=17) zho) rfl ?_;refine yx ?_;refine kI ?_;apply kL;exact kJ yg E
  refine zck ⟨[(1,sgsA l),(10,yc (mkC m l ch)),(11,zaV (mkA m l ch)),(13,tmsA (duV m l mi)),(14,.own 201),(15,iv (k:Int)),(16,iv ((itK l (mkC m l ch) (mkA m l ch) (duV m l mi) k).length:Int)),(17,.ptr 17 0 0 0)],[(201,.row itE (itK l (mkC m l ch) (mkA m l ch) (duV m l mi) k) 183 12),(17,.box [iv k,iv s.Value,.bool (decide (s.Kind=2)),.bool (decide (s.Kind=1)&&s.Color),.bool false,iv x,iv z.N,iv z.D,iv 0,iv 1,iv 0,iv 1] 183)]⟩ (λxT=>?_) ?_
  ·apply yj;(iterate 5 refine ya ?_);refine kG 5 ?_;refine yn ?_;(iterate 3 refine kF ?_);refine zds ?_;(iterate 2 refine ya ?_);refine kI ?_;apply kL;exact kJ yg xT
  refine gd ?_ ?_<;>intro x4
  ·subst x4;refine gq ?_;refine yM T ?_;(iterate 4 refine ya ?_);refine kI ?_;apply yG;(iterate 2 refine ya ?_);refine kG 2 ?_;refine yn ?_;(iterate 2 refine kF ?_);(iterate 2 refine yn ?_);(iterate 4 refine kF ?_);(iterate 2 refine yn ?_);(iterate 5 refine kF ?_);refine ge ?_;refine yz itE [itL k s (decide (s.Kind=2)||(decide (s.Kind=1)&&s.Color)||true||decide (x=s.Value)) x (mulV z ⟨3,2⟩)] ?_;refine gq ?_;refine yo (k+1)
  ·subst x4;apply yl;apply ye;(iterate 2 refine ya ?_);refine kG 2 ?_;refine yn ?_;(iterate 2 refine kF ?_);(iterate 2 refine yn ?_);(iterate 4 refine kF ?_);(iterate 2 refine yn ?_);(iterate 5 refine kF ?_);refine ge ?_;refine yz itE [itL k s (decide (s.Kind=2)||(decide (s.Kind=1)&&s.Color)||false||decide (x=s.Value)) x z] ?_;refine gq ?_;refine yo (k+1)
 ·have x0:k=l.length:=by omega
  subst x0;apply kK;apply ye;refine yq ?_;refine kE ?_;refine k8 (k9 (k:=201) rfl) ?_;refine yh ?_ ?_;all_goals(first|exact zE I|exact zE hE)
end
section
attribute [local irreducible] Pur yA yC Ex X Fn Imp LeV LeB FnO It yH
attribute [local irreducible] ckD zh twos prL
set_option maxHeartbeats 4000000 in
def zmc(m:Mn)(l:List Sg)(hl:l.length<=1000):Fn prog 137 [mnA m,sgsA l] (.tup [yc (if ckD m l=0 then zh m l else[]),yc (twos (prL m l).length),iv (ckD m l)]):=by
 refine kC func137 ntmps137 (λg w d=>?_);refine gc (zm9 m l hl) ?_;refine gd ?_ ?_<;>intro Z
 ·have ht:[]=twos (prL m l).length:=by rw[znu Z];unfold twos;rfl
  have hr:[]=(if ckD m l=0 then zh m l else[]):=by rw[j3 Z]
  apply ye;refine ya ?_;refine yq ?_;refine kE ?_;refine k8 (yd (ts:=[(4,yc []),(5,yc []),(6,iv (ckD m l))]) (hs:=[])) ?_;refine kH (.many (by decide) (.cons (.tmp rfl (kB ?_)) (.cons (.tmp rfl (kB ?_)) (.cons (.tmp rfl (kB ?_)) .nil))));all_goals(first|exact j6 yc ht|exact j6 yc hr|rfl)
 refine gc (zln m l hl) ?_;refine gd ?_ ?_<;>intro V
 ·exact absurd Z V
 refine gq ?_;refine kH (.many (by decide) (.cons (.tmp rfl (kB ?_)) (.cons (.tmp rfl (kB ?_)) (.cons (.tmp rfl (kB ?_)) .nil))));all_goals(first|rfl|exact j6 (AV.int .i64) Z.symm)
end
section
attribute [local irreducible] Pur yA yC Ex X Fn Imp LeV LeB FnO It yH
attribute [local irreducible] ckD zh twos prL mnsD
def zga(m:Mn)(l:List Sg)(hl:l.length<=1000):Fn prog 183 [mnA m,sgsA l] (.tup [yc (if ckD m l=0 then zh m l else[]),yc (twos (prL m l).length),iv (ckD m l)]):=by
 refine kC func183 ntmps183 (λg w d=>?_);refine gc (zfM m l hl) ?_;refine gd ?_ ?_<;>intro Z
 ·have ht:[]=twos (prL m l).length:=by rw[znu Z];unfold twos;rfl
  have hr:[]=(if ckD m l=0 then zh m l else[]):=by rw[j3 Z]
  apply ye;refine ya ?_;refine yq ?_;refine kE ?_;refine k8 (yd (ts:=[(4,yc []),(5,yc []),(6,iv (ckD m l))]) (hs:=[])) ?_;refine kH (.many (by decide) (.cons (.tmp rfl (kB ?_)) (.cons (.tmp rfl (kB ?_)) (.cons (.tmp rfl (kB ?_)) .nil))));all_goals(first|exact j6 yc ht|exact j6 yc hr|rfl)
 refine gc (zgj m l hl) ?_;refine gd ?_ ?_<;>intro V
 ·exact absurd Z V
 refine gq ?_;refine kH (.many (by decide) (.cons (.tmp rfl (kB ?_)) (.cons (.tmp rfl (kB ?_)) (.cons (.tmp rfl (kB ?_)) .nil))));all_goals(first|rfl|exact j6 (AV.int .i64) Z.symm)
end
end Go.Rse
namespace Go.Rse
open Go Go.Proofs Go.RowKit Go.Proofs.Tryz
attribute [local irreducible] Pur yA yC Ex X Fn Imp LeV LeB FnO It yH
def zqe(m:Mn)(l:List Sg)(ch mi:List Int):(itmV m l ch mi).length<=l.length:=by
 unfold itmV;split
 ·rw[ziQ];exact zk3 l _
 ·simp
attribute [local irreducible] itmE itmV zh ckD twos prL
end Go.Rse
namespace Go.Rse
open Go Go.Proofs Go.Proofs.Tryz
section
def rdI(m:Mn)(l:List Sg):List Ite:=itmV m l (zh m l) (twos (prL m l).length)
def rdE(m:Mn)(l:List Sg):Int:=if ckD m l=0 then leE m (rdI m l)else ckD m l
def rdV(m:Mn)(l:List Sg):Rdg:=if rdE m l=0 then⟨zh m l,twos (prL m l).length,leC m (rdI m l),(leI m (rdI m l)).map (·.Dur)⟩else⟨[],[],[],[]⟩
section
variable{m:Mn}{l:List Sg}
def zqf(h:ckD m l=0):itmE m l (zh m l) (twos (prL m l).length)=0:=by
 unfold itmE;rw[j4 (zsr (zeI h).1 h)];exact zss h
def zya(h:¬ckD m l=0):rdE m l=ckD m l/\rdV m l=⟨[],[],[],[]⟩:=by
 have:rdE m l=ckD m l:=by unfold rdE;rw[j3 h]
 refine⟨this,?_⟩;unfold rdV;rw[this,j3 h]
def zyb(h:ckD m l=0)(Z:¬leE m (rdI m l)=0):rdE m l=leE m (rdI m l)/\rdV m l=⟨[],[],[],[]⟩:=by
 have:rdE m l=leE m (rdI m l):=by unfold rdE;rw[j4 h]
 refine⟨this,?_⟩;unfold rdV;rw[this,j3 Z]
def zyc(h:ckD m l=0)(Z:leE m (rdI m l)=0):rdE m l=0/\rdV m l=⟨zh m l,twos (prL m l).length,leC m (rdI m l),(leI m (rdI m l)).map (·.Dur)⟩:=by
 have:rdE m l=0:=by unfold rdE;rw[j4 h,Z]
 refine⟨this,?_⟩;unfold rdV;rw[this,j4 rfl]
def zk7:(rdI m l).length<=l.length:=zqe _ _ _ _
end
def zn6{m:Mn}:∀(L:List Int)(l:List Ite)(C:List Int),(lvF m L l C).2.1.length<=l.length
 |[],l,C=>jE _
 |k::r,l,C=>by
  unfold lvF;split
  ·rename_i h;have:=zn6 (m:=m) r (apV m k l (cuV m k l)) (C++cuV m k l);rw[zlh (zms h)]at this;exact this
  ·simp
def zk8(m:Mn)(l:List Ite):(leI m l).length<=l.length:=by
 unfold leI;split
 ·exact zn6 _ _ _
 ·simp
def zqg{l:List Ite}{n:Nat}{x:Ite}(h:l[n]? =some x):(l.take n).map (·.Dur)++[x.Dur]=(l.take (n+1)).map (·.Dur):=by
 rw[jA,h];simp
end
section
def cnP(m:Mn)(h:Hb):List Bt->Nat
 |[]=>1
 |b::r=>(frV m b h).length*cnP m h r
theorem zmd(m:Mn)(h:Hb)(b:Bt):∀l,cnP m h (l++[b])=cnP m h l*(frV m b h).length
 |[]=>by simp[cnP]
 |x::r=>by
  simp[cnP,zmd,Nat.mul_assoc]
def zyd{m:Mn}{h:Hb}{l:List Bt}{i:Nat}{b:Bt}(hi:l[i]? =some b):cnP m h (l.take (i+1))=cnP m h (l.take i)*(frV m b h).length:=by
 grind[List.take_add_one,zmd]
def zqh(m:Mn)(h:Hb):∀l,cnP m h l<=32^l.length
 |[]=>jE _
 |b::r=>by
  have Z:=zfs m b h;have V:=zqh m h r;show(frV m b h).length*cnP m h r<=32^(r.length+1);rw[Nat.pow_succ,wM];exact vZ V Z
def zqi{m:Mn}{h:Hb}{l:List Bt}(hl:l.length<=12)(i:Nat):cnP m h (l.take i)<=1152921504606846976:=by
 refine jR (zqh m h _) ?_;rw[show 1152921504606846976=32^12 by decide];exact vJ (by decide) (by grind)
def wcnE(m:Mn)(l:List Bt)(h:Hb):Int:=if wcE m l=0 then(if 12<l.length then 11 else if 4096<cnP m h l then 15 else 0)else wcE m l
def wcnV(m:Mn)(l:List Bt)(h:Hb):Int:=if wcnE m l h=0 then(cnP m h l:Int)else 0
def cqO(m:Mn)(h:Hb)(l:List Bt):Bool:=l.any λb=>decide ((frV m b h).length=0)
def cqS(m:Mn)(h:Hb)(n:Nat)(b:Bt):Nat:=if 0<(frV m b h).length/\n<=4096 then n*(frV m b h).length else n
def cqN(m:Mn)(h:Hb)(l:List Bt):Nat:=l.foldl (cqS m h) 1
def zye{m:Mn}{h:Hb}{l:List Bt}{i:Nat}{b:Bt}(hi:l[i]? =some b):cqO m h (l.take (i+1))=(cqO m h (l.take i)||decide ((frV m b h).length=0)):=by
 unfold cqO;rw[jA,hi];simp
def zyf{m:Mn}{h:Hb}{l:List Bt}{i:Nat}{b:Bt}(hi:l[i]? =some b):cqN m h (l.take (i+1))=cqS m h (cqN m h (l.take i)) b:=by
 unfold cqN;rw[jA,hi];simp
def zvY{m:Mn}{h:Hb}{b:Bt}{n:Nat}(U:n<=131072):cqS m h n b<=131072:=by
 have V:=zfs m b h;unfold cqS;generalize(frV m b h).length=k at V⊢;by_cases Z:0<k/\n<=4096
 ·rw[j4 Z];have T:n*k<=4096*k:=jU k Z.2;omega
 grind
attribute [local irreducible] cqS frV
def zvZ(m:Mn)(h:Hb)(l:List Bt):∀(n:Nat),n<=131072->l.foldl (cqS m h) n<=131072:=by
 induction l<;>simp_all[zvY]
def zuS(m:Mn)(h:Hb)(l:List Bt):∀(n:Nat),1<=n->cqO m h l=false->(4096<l.foldl (cqS m h) n↔4096<n*cnP m h l)/\(n*cnP m h l<=4096->l.foldl (cqS m h) n=n*cnP m h l):=by
 induction l with
 |nil=>simp[cnP]
 |cons b r ih=>
  intro n V h0;unfold cqO at h0;simp only[k6,Bool.or_eq_false_iff,jP]at h0;obtain⟨J,Z⟩:=h0
  have T:0<cnP m h r:=by
   clear V ih
   induction r with
   |nil=>simp[cnP]
   |cons x r ih2=>
    simp only[k6,Bool.or_eq_false_iff,jP]at Z;exact Nat.mul_pos (by omega) (ih2 Z.2)
  rw[xC,show cnP m h (b::r)=(frV m b h).length*cnP m h r by rw[cnP]];rw[←Nat.mul_assoc];have Q:0<(frV m b h).length:=by omega
  by_cases U:n<=4096
  ·have e:cqS m h n b=n*(frV m b h).length:=by simp_all[cqS]
   rw[e];exact ih _ (Nat.mul_pos V Q) Z
  ·have e:cqS m h n b=n:=by unfold cqS;rw[j3 (λN=>U N.2)]
   rw[e];have i1:=ih n V Z;have g1:4096<n*cnP m h r:=jV (by omega) (xI n T);have g2:4096<n*(frV m b h).length*cnP m h r:=jV (by omega) (jR (xI n Q) (xI _ T));omega
def zn7{m:Mn}{h:Hb}:∀{l:List Bt},cqO m h l=true->cnP m h l=0
 |[],Z=>by simp[cqO]at Z
 |b::r,Z=>by
  unfold cqO at Z;simp only[k6,wE,w9]at Z;show(frV m b h).length*cnP m h r=0;rcases Z with Z|Z
  ·grind
  ·rw[zn7 (l:=r) Z,Nat.mul_zero]
def reQ(m:Mn)(l:List Sg)(D:List Tm):Bool:=decide (rdE m l=0)&&decide ((rdV m l).Durs=D)
def srV(m:Mn)(D:List Tm):List (List (List Sg))->List Sg->Option (List Sg)
 |[],run=>if reQ m run D then some run else none
 |F::r,run=>F.findSome? λf=>srV m D r (run++f)
def zn8{m:Mn}{D:List Tm}{r:List (List (List Sg))}{run:List Sg}{F:List (List Sg)}{i:Nat}{f:List Sg}(hi:F[i]? =some f)(h0:(F.take i).findSome? (λf=>srV m D r (run++f))=none):(F.take (i+1)).findSome? (λf=>srV m D r (run++f))=srV m D r (run++f):=by
 grind[List.take_add_one]
def zme{m:Mn}{D:List Tm}{r:List (List (List Sg))}{run:List Sg}{F:List (List Sg)}{i:Nat}{x:List Sg}(h:(F.take i).findSome? (λf=>srV m D r (run++f))=some x):srV m D (F::r) run=some x:=by
 grind[srV,List.take_append_drop]
def zk9{m:Mn}{D:List Tm}:∀{C:List (List (List Sg))}{run x:List Sg}{n:Nat},(∀F∈C,∀f∈F,1<=f.length/\f.length<=n)->srV m D C run=some x->run.length+C.length<=x.length/\x.length<=run.length+n*C.length
 |[],run,x,n,_,h=>by
  simp_all[srV]
 |F::r,run,x,n,Z,h=>by
  unfold srV at h;obtain⟨f,hf,V⟩:=List.exists_of_findSome?_eq_some h;obtain⟨T,Q⟩:=zk9 (n:=n) (λG U=>Z G (wQ _ U)) V
  grind[Nat.mul_succ]
def chV(m:Mn)(l:List Bt)(h:Hb):List (List (List Sg)):=l.map λb=>frV m b h
theorem zst(r:Bool)(f:Fo):1<=(foS r f).length/\(foS r f).length<=2:=by
 grind[foS]
theorem zmf{m:Mn}{b:Bt}{h:Hb}{f:List Sg}(hf:f∈frV m b h):1<=f.length/\f.length<=2:=by
 grind[frV,zst]
def zmg{m:Mn}{l:List Bt}{h:Hb}:∀F∈chV m l h,∀f∈F,1<=f.length/\f.length<=2:=λF Z f hf=>by
 grind[chV,zmf]
def wrO(m:Mn)(l:List Bt)(h:Hb):Option (List Sg):=srV m (durB l) (chV m l h) []
def wrE(m:Mn)(l:List Bt)(h:Hb):Int:=if wcnE m l h=0 then(if l=[]then 0 else if(wrO m l h).isSome then 0 else 18)else wcnE m l h
def wrV(m:Mn)(l:List Bt)(h:Hb):List Sg:=if wcnE m l h=0 then(if l=[]then[]else(wrO m l h).getD [])else[]
theorem zn9{m:Mn}{D:List Tm}{h:Hb}:∀{l:List Bt}{run:List Sg},cnP m h l=0->srV m D (chV m l h) run=none
 |[],run,Z=>by simp[cnP]at Z
 |b::r,run,Z=>by
  show(frV m b h).findSome? (λf=>srV m D (chV m r h) (run++f))=none;rcases Nat.mul_eq_zero.1 (show(frV m b h).length*cnP m h r=0 from Z)with h0|h0
  ·simp_all
  ·rw[List.findSome?_eq_none_iff];intro f _;exact zn9 h0
end
end Go.Rse
