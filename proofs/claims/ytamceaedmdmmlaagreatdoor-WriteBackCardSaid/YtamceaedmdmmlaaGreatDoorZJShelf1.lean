/-
  Contracts of the lib.
-/
import Derived.Test.YtamceaedmdmmlaaGreatDoorZShelf0
import Derived.Sort.OwnSortedInts
import Derived.Test.YtamceaedmdmmlaaGreatDoorZJMens2
set_option linter.all false
namespace Go.Rse
open Go Go.Proofs Go.Proofs.Tryz
section
def zmS{I:Im}{l:List Int}{xs:List Value}(hl:xs.length=l.length*1)(h:∀(i:Nat)(x:Int)(j:Nat)(c:AV)(v:Value),l[i]? =some x->(intE x)[j]? =some c->xs[i*1+j]? =some v->RV I noNames c v):xs=l.map (Value.int .i64):=by
 apply uI;intro i;rw[jN];cases hx:l[i]? with
 |none=>
  have:l.length<=i:=by simpa using hx
  rw[wF (by omega)];rfl
 |some x=>
  have Z:i<xs.length:=by have:=(j5.1 hx).1;omega
  have hv:=h i x 0 (iv x) xs[i] hx rfl (by simp[lgg Z]);rw[lgg Z,y5 hv];rfl
def zrI{I:Im}{l:List Int}:∀(i:Nat)(x:Int)(j:Nat)(c:AV)(v:Value),l[i]? =some x->(intE x)[j]? =some c->(l.map (Value.int .i64))[i*1+j]? =some v->RV I noNames c v:=λi x j c v hx Z hv=>by
 cases j with
 |zero=>
  simp[intE]at Z;simp[hx]at hv;subst Z;subst hv;exact .int _ _
 |succ j=>simp[intE]at Z
def zoZ{d:Nat}{ρ ρ':Nat->Value}{I:Im}{O:Owns}{w w':World}{E:TypeId}{l l':List Int}{b:Nat}(Z:Sat (C0 0 d ⟨ρ,I,O⟩ w) [(2000000,.row intE l E 1)] ⟨ρ,I,O⟩ w)(hρ:∀n,n≠2000000->ρ' n=ρ n)(G:y9 (ρ 2000000)=some b)(N:y9 (ρ' 2000000)=some b)
 (hm:w.grownBy w' (some b))(J:w.drawn<=w'.drawn)(hw:w'.ownsRow 0 E 1 (ρ' 2000000) l'.length (l'.map (Value.int .i64))):
 Sat (C0 0 d ⟨ρ,I,O⟩ w) [(2000000,.row intE l' E 1)] ⟨ρ',I,O⟩ w'/\Ext (C0 0 d ⟨ρ,I,O⟩ w) ⟨ρ',I,O⟩ w':=by
 have V:Rel (C0 0 d ⟨ρ,I,O⟩ w) ⟨[],[(2000000,.row intE l E 1)]⟩ ⟨ρ,I,O⟩ {tmps:= #[],defers:=[]} w:=⟨rfl,Dfs.nil _ _ _,λt x h=>by simp[lk]at h,Z,⟨bO _,rfl,rfl,rfl,jE _,jE _,λ_ _ _ _=>⟨rfl,rfl⟩,λb y n _ hy=>⟨n,hy⟩⟩⟩;obtain⟨xs,xT,h1,h2,h3⟩:=Z.blk 2000000 _ rfl;have H:=h3 b G
 have hr:=V.modifyR (g':=⟨ρ',I,O⟩) (k:=2000000) (bo:=some b) (B:=.row intE l' E 1) (d:=none) (x:=.any) (v:=.nilIface) rfl hρ (λ_ _=>rfl) (λb' e=>by injection e with e;subst e;exact H) hm J (Z.ob.up (bO _) hm.size) rfl (.any _)
  ⟨l'.map (Value.int .i64),hw,λi x _=>rfl,zrI,λb' U=>by
   have:b'=b:=by rw[N]at U;simpa using U.symm
   subst this;exact H⟩
 refine⟨⟨hr.sat.im,hr.sat.ob,λk B T=>hr.sat.blk k B ?_⟩,hr.ext⟩;simp only[yq]at T⊢;cases hk:Nat.beq 2000000 k<;>simp[hk]at T⊢
 ·simp[lk]at T
 ·exact T
def srtI(l:List Int):List Int:=l.mergeSort λx y=>decide (x<=y)
def zgT(l:List Int):(srtI l).length=l.length:=List.length_mergeSort l
def zo0{I:Im}{ρ:Nat->Value}{k:Nat}{args:List Value}(h:RVL I ρ [.own k] args):args=[ρ k]:=by
 obtain⟨hl,hv⟩:=h
 match args,hl with
 |[v],_=>rw[zaa (hv 0 _ v rfl rfl)]
def zel(l:List Int)(hl:l.length<=4000000000):FnO prog 166 [.own 2000000] [(2000000,.row intE l 3 1)] [2000000] (.tup []) [(2000000,.row intE (srtI l) 3 1)]:=by
 refine⟨by kernel_rfl,λd ρ I O w args Z V=>?_⟩;rw[zo0 V];obtain⟨xs,hw,h1,h2,h3⟩:=Z.blk 2000000 _ rfl;have J:=zmS hw.1 h2;rcases hw.2 with⟨hv,h0⟩|⟨b,cap,cur,hv,H,G,E,xT,T,x4⟩
 ·have hv:ρ 2000000=.slice none 0 0:=hv;have x3:l=[]:=jR h0;subst x3;have e0:srtI []=[]:=by simp[srtI]
  rw[hv,e0];refine Calls.mono (Tryz.slices_Sort_int_none none 0 w) ?_
  rintro e w'⟨rfl,rfl⟩
  exact⟨_,ρ,I,O,rfl,Z,.tup [] [] rfl (λj c v h=>by simp at h),⟨bO _,rfl,rfl,rfl,jE _,jE _,λ_ _ _ _=>⟨rfl,rfl⟩,λb y n _ hy=>⟨n,hy⟩⟩,λ_ _=>rfl⟩
 ·have hv:ρ 2000000=.slice (some ⟨b,0,none⟩) l.length cap:=hv;rw[hv];have U:=holds_of_blockI (ss:=l) G (by rw[←J,←x4];simp);refine Calls.mono (Tryz.slices_Sort_int b 0 cap l w U (zg G) (by omega)) ?_
  rintro e w'⟨rfl,n,os,rfl⟩
  have N:=ownsRow_sortedI (n:=n) (os:=os) (base:=0) (ss:=l) (ts:=srtI l) (zgT l) H G E xT (by simpa using T);obtain⟨s1,s2⟩:=zoZ (ρ':=ρ) (l':=srtI l) Z (λ_ _=>rfl) (by rw[hv];rfl) (by rw[hv];rfl) (grownBy_sortedI (n:=n) (os:=os) (srtI l).toArray) (by show w.drawn<=w.drawn+n;omega) (by rw[hv,zgT];exact N);exact⟨_,ρ,I,O,rfl,s1,.tup [] [] rfl (λj c v h=>by simp at h),s2,λ_ _=>rfl⟩
def zdo(l:List Int)(hl:l.length<=4000000000):FnO prog 167 [.own 2000000] [(2000000,.row intE l 3 1)] [] (.own 2000000) [(2000000,.row intE (Lib.compact l) 3 1)]:=by
 refine⟨by kernel_rfl,λd ρ I O w args Z U=>?_⟩;rw[zo0 U];obtain⟨xs,hw,h1,h2,h3⟩:=Z.blk 2000000 _ rfl;have E:=zmS hw.1 h2;rcases hw.2 with⟨hv,h0⟩|⟨b,cap,cur,hv,xT,hh,N,x4,J,x3⟩
 ·have hv:ρ 2000000=.slice none 0 0:=hv;have x2:l=[]:=jR h0;subst x2;have e0:Lib.compact ([]:List Int)=[]:=rfl;rw[hv,e0];refine Calls.mono (Tryz.slices_Compact_int_empty none 0 w) ?_
  rintro e w'⟨rfl,rfl⟩
  exact⟨_,ρ,I,O,rfl,Z,.own _ _ _ _ hv,⟨bO _,rfl,rfl,rfl,jE _,jE _,λ_ _ _ _=>⟨rfl,rfl⟩,λb y n _ hy=>⟨n,hy⟩⟩,λ_ h=>by simp at h⟩
 ·have hv:ρ 2000000=.slice (some ⟨b,0,none⟩) l.length cap:=hv;rw[hv];have T:=holds_of_blockI (ss:=l) hh (by rw[←E,←x3];simp);refine Calls.mono (Tryz.slices_Compact_int b 0 cap l w T (by omega) N) ?_
  rintro e w'⟨rfl,n,rfl⟩
  have x1:(Lib.compact l).length<=l.length:=Lib.compact_length_le l;have V:=ownsRow_sortedI (n:=n) (os:= #[]) (base:=0) (ss:=l) (ts:=Lib.compact l++List.replicate (l.length-(Lib.compact l).length) 0) (by simp;omega) xT hh N x4 (by simpa using J);have H:=grownBy_sortedI (w:=w) (g:=b) (n:=n) (os:= #[]) (Lib.compact l++List.replicate (l.length-(Lib.compact l).length) 0).toArray;rw[Sort.grow_empty]at V H
  obtain⟨s1,s2⟩:=zoZ (ρ':=λk=>if k=2000000 then .slice (some ⟨b,0,none⟩) (Lib.compact l).length cap else ρ k) (l':=Lib.compact l) Z (λk hk=>by simp[hk]) (by rw[hv];rfl) (by simp[y9]) H (by show w.drawn<=w.drawn+n;omega) (by
   refine⟨by simp,?_⟩;rcases V.2 with⟨h,_⟩|⟨g',cap',cur',G,x0,w9,v5,w2,v9,v8⟩
   ·simp at h
   ·simp at G;obtain⟨rfl,rfl⟩:=G;refine .inr ⟨b,cap,cur',by simp,x0,w9,by omega,w2,v9,?_⟩;have:=j9 (List.take ((Lib.compact l).length*1)) v8;rw[List.take_take]at this;simp only[Nat.mul_one,xC]at this⊢;rw[Nat.min_eq_left x1]at this;rw[this,wX (by simp),wC (by simp)])
  exact⟨_,_,I,O,rfl,s1,.own _ _ _ _ (by simp),s2,λ_ h=>by simp at h⟩
end
section
attribute [local irreducible] Pur yy yz Ex X Fn Imp LeV LeB FnO It yH
def fidx(p:Int->Bool)(l:List Int):Int:=if l.findIdx p<l.length then(l.findIdx p:Int)else-1
def zmT{p:Int->Bool}{l:List Int}{k:Nat}{v:Int}(hv:l[k]? =some v)(Z:p v=true)(hJ:∀i u,i<k->l[i]? =some u->p u=false):fidx p l=k:=by
 have hk:k<l.length:=(j5.1 hv).1;have V:l[k]=v:=(j5.1 hv).2;have:l.findIdx p=k:=(List.findIdx_eq hk).2 ⟨by rw[V];exact Z,λj U=>hJ j _ U (lgg (by omega))⟩;unfold fidx;rw[this,j6 hk]
def zkC{p:Int->Bool}{l:List Int}(hJ:∀i u,i<l.length->l[i]? =some u->p u=false):fidx p l=-1:=by
 have:l.findIdx p=l.length:=uP.2 λx hx=>by
  obtain⟨i,hi⟩:=jQ.1 hx;simpa using hJ i x (j5.1 hi).1 hi
 unfold fidx;rw[j7 (by omega)]
def zcS(l:List Int)(hl:l.length<=4000000000)(fp:FuncId)(caps:List AV)(p:Int->Bool)(hn:AV.nm.nmL caps=true)(N:∀v,v∈l->Fn prog fp ([iv v]++caps) (.bool (p v))):FnO prog 228 [.own 2000000,.fn fp caps] [(2000000,.row intE l 3 1)] [2000000] (iv (fidx p l)) [(2000000,.row intE l 3 1)]:=by
 refine bP (ts:=[(0,.own 2000000),(1,.fn fp caps)]) (rv:=[.tmp 4]) (n:=19) (cs:=[.own 2000000]) (by kernel_rfl) func228 rfl ntmps228 rfl rfl (by simp) rfl rfl rfl rfl (λg w d vs=>?_);apply ye;refine yj ?_;apply yh;apply ye;refine yC ?_;apply kP;refine zW (λk=>[(0,.own 2000000),(1,.fn fp caps),(7,iv l.length),(8,iv k)]) (λk=>[(1000001,.hold vs [.own 2000000]),(2000000,.row intE l 3 1)]) (λk=>k<=l.length/\∀i u,i<k->l[i]? =some u->p u=false) l.length (λk hk=>?_) (hJ:=by exact⟨by omega,λi u h=>absurd h (u0 i)⟩) (h0:=yd);obtain⟨J,Z⟩:=hk;refine gd ?_ ?_<;>intro H
 ·have T:=@getX _ l k (by omega);obtain⟨v,hv,G⟩:=T;apply yk;apply yh;apply kP;apply ye;iterate 2 refine ya ?_
  apply yE;iterate 5 refine ya ?_
  refine Ex.call rfl rfl (by simpa[AV.nm.nmL,AV.nm]using hn) (N v (j8 hv)) rfl ?_;refine gd ?_ ?_<;>intro V
  ·have he:=zmT hv V Z;apply ye;refine yQ ?_;refine kQ ?_;rw[he];refine zpx.mk (ts:=[(4,iv k)]) (.inr rfl) (yd) (.one (.tmp rfl (kO rfl)))
  refine gq ?_
  refine yu (k+1) (hJ:=by
   refine⟨by omega,λi u hi U=>?_⟩;rcases wG.1 hi with h|h
   ·exact Z i u h U
   ·subst h;rw[hv]at U;injection U with U;subst U;exact V)
 ·have he:=zkC (p:=p) (l:=l) λi u hi=>Z i u (by omega)
  apply bA;apply ye;refine yj ?_;refine kQ ?_;rw[he];refine zpx.mk (ts:=[(4,iv (-1))]) (.inr rfl) (yd) (.one (.tmp rfl (kO rfl)))
def zyq{L:List Nat}{x:AV}(h:x.nm=true):ok1 L x=true:=by
 cases x<;>first|exact h|(simp[AV.nm]at h)
def zt6{μ:List (Nat×Nat)}{x:AV}(h:x.nm=true):ren1 μ x=x:=by
 cases x<;>first|rfl|(simp[AV.nm]at h)
def zo1{cs:List AV}(h:AV.nm.nmL cs=true):∀x∈cs,x.nm=true:=λx hx=>by
 obtain⟨j,Z⟩:=jQ.1 hx;exact zw h Z
def zAY{L:List Nat}{f:FuncId}{caps:List AV}(h:AV.nm.nmL caps=true):AV.okN L (.fn f caps)=true:=
 jF.2 λx hx=>zyq (zo1 h x hx)
def zyr{μ:List (Nat×Nat)}{f:FuncId}{caps:List AV}(h:AV.nm.nmL caps=true):AV.fn f caps=AV.ren μ (.fn f caps):=by
 have:caps.map (ren1 μ)=caps:=by
  have Z:caps.map (ren1 μ)=caps.map id:=vC λx hx=>zt6 (zo1 h x hx)
  simpa using Z
 show AV.fn f caps=AV.fn f (caps.map (ren1 μ));rw[this]
def dl(p:Int->Bool)(l:List Int):List Int:=l.filter λv=>!p v
def zlI{p:Int->Bool}{l:List Int}{k:Nat}{v:Int}(h:l[k]? =some v):dl p (l.take (k+1))=dl p (l.take k)++(if p v=true then[]else[v]):=by
 have:l.take (k+1)=l.take k++[v]:=by rw[jG,h];rfl
 rw[dl,this,uF];cases Z:p v<;>simp[dl,Z]
def znN(p:Int->Bool)(l:List Int):(fidx p l=-1/\dl p l=l)\/∃(k:Nat)(v:Int),fidx p l=(k:Int)/\l[k]? =some v/\p v=true/\dl p (l.take k)=l.take k:=by
 unfold fidx;split
 ·rename_i h;refine .inr ⟨l.findIdx p,l[l.findIdx p],rfl,lgg h,List.findIdx_getElem (w:=h),?_⟩;refine x7.2 λx hx=>?_
  obtain⟨i,hi⟩:=jQ.1 hx;rw[wI]at hi;split at hi
  ·rename_i Z;have:=List.not_of_lt_findIdx Z;have V:l[i]=x:=(j5.1 hi).2;rw[V]at this;simpa using this
  ·simp at hi
 ·rename_i h;refine .inl ⟨rfl,x7.2 λx hx=>?_⟩;have U:l.findIdx p=l.length:=Nat.le_antisymm List.findIdx_le_length (by omega);have:=(uP.1 U) x hx;simpa using this
def zcw(l:List Int)(hl:l.length<=4000000000)(fp:FuncId)(caps:List AV)(p:Int->Bool)(hn:AV.nm.nmL caps=true)(hp:∀v,v∈l->Fn prog fp ([iv v]++caps) (.bool (p v))):FnO prog 163 [.own 2000000,.fn fp caps] [(2000000,.row intE l 3 1)] [] (.own 2000000) [(2000000,.row intE (dl p l) 3 1)]:=by
 have N:=znN p l;refine bP (ts:=[(0,.own 2000000),(1,.fn fp caps)]) (rv:=[.tmp 4]) (n:=42) (cs:=[]) (by kernel_rfl) func163 rfl ntmps163 rfl rfl (by simp) rfl rfl rfl rfl (λg w d vs=>?_);apply ye;refine ya ?_;apply yE;iterate 2 refine ya ?_
 refine zby [(2000000,2000000)] (zcS l hl fp caps p hn hp) rfl rfl rfl (.cons (kX _) (.cons (kO (zyr hn)) .nil)) (by simp only[x8,List.all_nil,zAY hn,Bool.and_true];rfl) rfl ⟨⟨_,_,rfl,rfl,bD _,rfl⟩,trivial⟩ rfl rfl rfl rfl ?_;refine gd ?_ ?_<;>intro w2
 ·apply ye;refine yQ ?_;refine kQ ?_;have he:=(N.resolve_right (λ⟨k,_,h,_⟩=>by omega)).2;have E:l=dl p l:=he.symm;refine zpx.mk (ts:=[(4,.own 2000000)]) (.inr rfl) (yd) (.one (.tmp rfl (kO rfl)))
 obtain⟨k0,v0,v9,J,xT,x4⟩:=N.resolve_left (λh=>by omega);have x0:k0<l.length:=(j5.1 J).1;have H:dl p (l.take (k0+1))=l.take k0:=by rw[zlI J,j6 xT,x4,wO]
 have x3:(dl p (l.take (k0+1))).length=k0:=by rw[H,jO];omega
 have U:l=dl p (l.take (k0+1))++l.drop (dl p (l.take (k0+1))).length:=by rw[x3,H,wB]
 refine gq ?_
 refine zen (ι:=Nat) (λ(k:Nat)=>[(0,.own 2000000),(1,.fn fp caps),(5,iv ((dl p (l.take k)).length:Int)),(6,iv (k:Int))]) (λ(k:Nat)=>[(1000001,.hold vs []),(2000000,.row intE (dl p (l.take k)++l.drop (dl p (l.take k)).length) 3 1)]) (λ(k:Nat)=>k<=l.length/\(dl p (l.take k)).length<k) (λ(k:Nat)=>l.length-k) (k0+1) (λk hk=>?_) (hJ:=by exact⟨by omega,by omega⟩) (h0:=by
  refine bL ⟨⟨_,rfl,kX _⟩,⟨_,rfl,kX _⟩,⟨_,rfl,kO (j9 (AV.int .i64) (by omega))⟩,⟨_,rfl,kO (j9 (AV.int .i64) (by omega))⟩,trivial⟩ ⟨⟨_,rfl,bD _⟩,⟨_,rfl,bM U⟩,trivial⟩)
 obtain⟨v8,v5⟩:=hk;have v4:(dl p (l.take k)++l.drop (dl p (l.take k)).length).length=l.length:=by simp;omega
 refine gd ?_ ?_<;>intro v3
 ·obtain⟨v,hv⟩:∃v,l[k]? =some v:=⟨_,lgg (by omega)⟩
  have v2:(dl p (l.take k)++l.drop (dl p (l.take k)).length)[(k:Int).toNat]? =some v:=by
   rw[wN,u6 (by omega),wV,show(dl p (l.take k)).length+(k-(dl p (l.take k)).length)=k by omega];exact hv
  apply yk;apply yh;apply kP;apply ye;iterate 5 refine ya ?_
  apply yE;iterate 2 refine ya ?_
  refine Ex.call rfl rfl (by simpa[AV.nm.nmL,AV.nm]using hn) (hp v (j8 hv)) rfl ?_;refine gd ?_ ?_<;>intro G
  ·have Z:dl p (l.take (k+1))=dl p (l.take k)++[v]:=by rw[zlI hv,j7 (by simp[G])]
   have V:(dl p (l.take (k+1))).length=(dl p (l.take k)).length+1:=by rw[Z];simp
   have T:(dl p (l.take k)++l.drop (dl p (l.take k)).length).set (((dl p (l.take k)).length:Nat):Int).toNat v=dl p (l.take (k+1))++l.drop (dl p (l.take (k+1))).length:=by
    rw[V,Z,wN,xU _ _ (jE _),Nat.sub_self];have h9:(l.drop (dl p (l.take k)).length).set 0 v=v::l.drop ((dl p (l.take k)).length+1):=by rw[jL (show(dl p (l.take k)).length<l.length by omega)];rfl
    rw[h9];simp
   refine gq ?_
   refine yu (k+1) (hJ:=by
    refine⟨by omega,?_⟩;rw[V];omega)
  ·have Z:dl p (l.take (k+1))=dl p (l.take k):=by rw[zlI hv,j6 (by simpa using G),wO]
   have V:(dl p (l.take (k+1))).length=(dl p (l.take k)).length:=by rw[Z]
   have T:dl p (l.take k)++l.drop (dl p (l.take k)).length=dl p (l.take (k+1))++l.drop (dl p (l.take (k+1))).length:=by rw[Z]
   refine gq ?_
   refine yu (k+1) (hJ:=by
    refine⟨by omega,?_⟩;rw[V];omega)
 ·have x2:k=l.length:=by omega
  subst x2;have x1:(((dl p (l.take l.length)).length:Nat):Int).toNat+((dl p (l.take l.length)++l.drop (dl p (l.take l.length)).length).length-(((dl p (l.take l.length)).length:Nat):Int).toNat)=(dl p (l.take l.length)++l.drop (dl p (l.take l.length)).length).length:=by rw[wN];omega
  apply bA;apply ye;iterate 2 refine ya ?_
  refine zo (zx rfl rfl rfl sl22 ty3 (by omega) (by omega)) rfl ?_;refine zas (zuD (0:Int) rfl rfl (λ_=>rfl) (by decide) sl22 ti3 rfl rfl rfl x1) ?_;refine gq ?_;refine zas (zy7 rfl rfl rfl sl22 ty3 (by omega) (by simp;omega) rfl) ?_;refine yj ?_;refine kQ ?_
  have w9:List.take (((dl p (l.take l.length)).length:Nat):Int).toNat (List.take (((dl p (l.take l.length)).length:Nat):Int).toNat (dl p (l.take l.length)++l.drop (dl p (l.take l.length)).length)++List.replicate ((dl p (l.take l.length)++l.drop (dl p (l.take l.length)).length).length-(((dl p (l.take l.length)).length:Nat):Int).toNat) 0)=dl p l:=by
   rw[wN,wX (by simp),List.take_take,Nat.min_self,wX (jE _),wC (jE _),wC (jE _)]
  refine zpx.mk (ts:=[(4,.own 2000000)]) (.inr rfl) (yd) (.one (.tmp rfl (kO rfl)))
end
section
attribute [local irreducible] Pur yy yz Ex X Fn Imp LeV LeB FnO It yH
def coll(p:Int->Bool)(l:List Int):List Int:=Lib.compact (srtI (dl (λv=>!p v) l))
def zgU(p:Int->Bool)(l:List Int):(coll p l).length<=l.length:=jT (Lib.compact_length_le _) (by rw[zgT];exact wZ _ _)
def zhI(p:Int->Bool)(l:List Int):(dl p l).length<=l.length:=wZ _ _
def zfu(fp:FuncId)(p:Int->Bool)(v:Int)(Z:Fn prog fp [iv v] (.bool (p v))):Fn prog 165 [iv v,.ept (λ_:Unit=>[.fn fp []]) () 0] (.bool (!p v)):=by
 refine kR func165 ntmps165 (λg w d=>?_);refine gc Z ?_;all_goals exact zR
def zbH(l:List Int)(hl:l.length<=4000000000)(fp:FuncId)(p:Int->Bool)(Z:∀v,v∈l->Fn prog fp [iv v] (.bool (p v))):Fn prog 114 [yc l,.fn fp []] (yc (coll p l)):=by
 refine kR func114 ntmps114 (λg w d=>?_);apply ye;refine ze0 ?_;refine ya ?_;apply yE;refine ya ?_;refine zby [(5,6)] (zbF l hl) rfl rfl rfl (bC _) rfl rfl trivial rfl rfl rfl rfl ?_;refine bF (yY (k:=3) rfl rfl) ?_;refine zo (zgj rfl) rfl ?_;refine zby [(2000000,6),(2000002,8)] (zjH 2000002 (zcw l hl 165 [.ept (λ_:Unit=>[.fn fp []]) () 0] (λv=>!p v) rfl (λv hv=>zfu fp p v (Z v hv))) rfl) rfl rfl rfl (bC _) rfl rfl ⟨⟨_,_,rfl,rfl,bD _,rfl⟩,trivial⟩ rfl rfl rfl rfl ?_;refine ya ?_;apply yE;refine ya ?_;refine zby [(2000000,8)] (zel (dl (λv=>!p v) l) (jT (zhI _ _) hl)) rfl rfl rfl (bC _) rfl rfl ⟨⟨_,_,rfl,rfl,bD _,rfl⟩,trivial⟩ rfl rfl rfl rfl ?_;apply yE;refine ya ?_;refine zby [(2000000,8),(2000002,12)] (zjH 2000002 (zdo (srtI (dl (λv=>!p v) l)) (by rw[zgT];exact jT (zhI _ _) hl)) rfl) rfl rfl rfl (bC _) rfl rfl ⟨⟨_,_,rfl,rfl,bD _,rfl⟩,trivial⟩ rfl rfl rfl rfl ?_;refine yj ?_;refine kQ ?_;refine kM (kL (k:=12) rfl) ?_;refine gq ?_;all_goals exact zR
def Mn.aV(m:Mn)(v:Int):Int:=if ckMV m v=0 then m.ab v else 0
def Mn.pV(m:Mn)(v:Int):Int:=if ckMV m v=0 then m.p v else 0
def posI(v:Int):Bool:=decide (0<v)
def mngs(m:Mn)(s:Sg):List Int:=
 if s.Kind=2 then coll posI [m.aV s.Value]else if s.Color then[0]else if m.pV s.Value=3 then coll posI [s.Value,m.aV s.Value]else 0::coll posI [m.aV s.Value]
def zb2(v:Int):Fn prog 113 [iv v] (.bool (posI v)):=by
 refine kR func113 ntmps113 (λg w d=>?_);refine gq ?_;all_goals exact zR
def zeG(m:Mn)(s:Sg):Fn prog 66 [mnA m,sgA s] (yc (mngs m s)):=by
 refine kR func66 ntmps66 (λg w d=>?_);refine gc (zgI m s.Value) ?_;refine gc (zdW m s.Value) ?_;refine gd ?_ ?_<;>intro Z
 ·refine gq ?_;refine yD intE [_] ?_;refine ya ?_;refine bF (kL (k:=29) rfl) ?_;refine Ex.call rfl rfl rfl (zbH [m.aV s.Value] (by simp) _ posI (λv _=>zb2 v)) rfl ?_;refine gq ?_;all_goals(simp[mngs,Z])
 refine gd ?_ ?_<;>intro T
 ·apply ye;refine yD intE [_] ?_;refine yj ?_;refine kQ ?_;refine kM (kL (k:=35) rfl) ?_;refine gq ?_;all_goals(simp[mngs, *];rfl)
 refine gd ?_ ?_<;>intro V
 ·have U:m.pV s.Value=3:=V;refine gq ?_;refine yD intE [_,_] ?_;refine ya ?_;refine bF (kL (k:=42) rfl) ?_;refine Ex.call rfl rfl rfl (zbH [s.Value,m.aV s.Value] (by simp) _ posI (λv _=>zb2 v)) rfl ?_;refine gq ?_;all_goals(simp[mngs,Z,T,U])
 have U:¬m.pV s.Value=3:=V;have N:(coll posI [m.aV s.Value]).length<=1:=zgU _ _;refine gq ?_;refine yD intE [_] ?_;refine gq ?_;refine yD intE [_] ?_;refine ya ?_;refine bF (kL (k:=47) rfl) ?_;refine Ex.call rfl rfl rfl (zbH [m.aV s.Value] (by simp) _ posI (λv _=>zb2 v)) rfl ?_;refine kV ?_;refine yj ?_;refine kQ ?_;refine kM (kL (k:=45) rfl) ?_;refine gq ?_;all_goals(simp[mngs, *];rfl)
end
section
attribute [local irreducible] Pur yy yz Ex X Fn Imp LeV LeB FnO It yH
def yS(l:List Sg):Nat->List Int
 |0=>[]
 |k+1=>yS l k++(match l[k]? with|some s=>if s.Kind=3 then[(k:Int)]else[]|none=>[])
def zbv(l:List Sg):∀k,(yS l k).length<=k
 |0=>jE _
 |k+1=>by
  have:=zbv l k;simp only[yS,jC];split
  ·split<;>simp<;>omega
  ·simp;omega
def zi2(l:List Sg)(hl:l.length<=1000):Fn prog 150 [sgsA l] (yc (yS l l.length)):=by
 refine kR func150 ntmps150 (λg w d=>?_);apply ye;refine ya ?_;apply yE;refine yj ?_;iterate 2 apply yh
 refine kT (yG intE 3 1 3 3 rfl rfl) ?_;apply yf;refine yC ?_;apply kP;refine zm (λk=>[(3,.own 3),(6,sgsA l),(7,iv l.length),(8,iv (k:Int))]) (λk=>[(3,.row intE (yS l k) 3 1)]) l.length (λk hk=>?_) (h0:=yd);refine gd ?_ ?_<;>intro N
 ·have U:=@getX _ l k (by omega);obtain⟨s,hs,J⟩:=U;have H:=zbv l k;refine gd ?_ ?_<;>intro V
  ·have Z:yS l k++[(k:Int)]=yS l (k+1):=by simp[yS,hs,V]
   refine gq ?_;refine yD intE [_] ?_;refine gq ?_;refine yu (k+1)
  ·have Z:yS l k=yS l (k+1):=by simp[yS,hs,V]
   refine gq ?_;refine yu (k+1)
 ·have T:k=l.length:=by omega
  subst T;apply bA;apply ye;refine yQ ?_;refine kQ ?_;refine kM (kL (k:=3) rfl) ?_;refine gq ?_;all_goals exact zR
end
section
attribute [local irreducible] Pur yy yz Ex X Fn Imp LeV LeB FnO It yH
def sgF(m:Mn)(l:List Sg)(k:Nat)(s:Sg):Int:=
 if s.Kind=1\/s.Kind=2 then(if 1<=s.Value/\s.Value<=8 then 0 else 2)
 else if s.Kind=3 then(match k with|0=>13|j+1=>match l[j]? with|some p=>if p.Kind=3\/(mngs m p).length=0 then 13 else 0|none=>13)
 else 8
def zar(m:Mn)(l:List Sg):Nat->List Sg->Int
 |_,[]=>0
 |k,s::r=>if sgF m l k s=0 then zar m l (k+1) r else sgF m l k s
def ckD(m:Mn)(l:List Sg):Int:=if ckM m=0 then zar m l 0 l else ckM m
def zdG{m:Mn}{l:List Sg}{k:Nat}{s:Sg}(h:l[k]? =some s)(h0:sgF m l k s=0):zar m l k (l.drop k)=zar m l (k+1) (l.drop (k+1)):=by
 have hk:k<l.length:=(j5.1 h).1;rw[jL hk];have:l[k]=s:=(j5.1 h).2;rw[this];simp only[zar,h0,if_true]
theorem zb3{m:Mn}{l:List Sg}{k:Nat}{s:Sg}(h:l[k]? =some s)(h0:sgF m l k s≠0):zar m l k (l.drop k)=sgF m l k s:=by
 have hk:k<l.length:=(j5.1 h).1;rw[jL hk];have:l[k]=s:=(j5.1 h).2;rw[this];simp only[zar,j7 h0]
def zo2{m:Mn}{l:List Sg}{k:Nat}{s:Sg}(hk:k<l.length)(Z:s.Kind=3):sgF m l k s=if((k:Int)=0\/(l.getD ((k:Int)-1).toNat default).Kind=3)\/((mngs m (l.getD ((k:Int)-1).toNat default)).length:Int)=0 then 13 else 0:=by
 unfold sgF;rw[j7 (by omega),j6 Z];cases k with
 |zero=>simp
 |succ j=>
  have e:(((j+1:Nat):Int)-1).toNat=j:=by omega
  have V:l[j]? =some (l.getD j default):=by rw[jD,lgg (by omega)];rfl
  rw[e];simp only[V];generalize l.getD j default=p;by_cases h1:p.Kind=3
  ·simp[h1]
  ·by_cases U:(mngs m p).length=0
   ·rw[j6 (.inr U),j6 (.inr (by omega))]
   ·rw[j7 (by omega),j7 (by omega)]
def zce(m:Mn)(l:List Sg)(hl:l.length<=1000):Fn prog 38 [mnA m,sgsA l] (iv (ckD m l)):=by
 refine kR func38 ntmps38 (λg w d=>?_);refine gc (zaw m) ?_;refine gd ?_ ?_<;>intro T
 ·refine gq ?_;all_goals(first|rfl|(unfold ckD;rw[j7 T]))
 apply yk;apply yh;apply ye;refine yC ?_;apply kP;refine zW (λk=>[(1,sgsA l),(2,.ptr 2 0 0 0),(13,sgsA l),(14,iv l.length),(15,iv (k:Int))]) (λk=>[(2,.box (mnE m) 27)]) (λk=>k<=l.length/\ckD m l=zar m l k (l.drop k)) l.length (λk hk=>?_) (hJ:=by exact⟨by omega,by unfold ckD;rw[j6 T];rfl⟩) (h0:=yd);obtain⟨xT,Z⟩:=hk;refine gd ?_ ?_<;>intro x4
 ·have H:=@getX _ l k (by omega);obtain⟨s,hs,x3⟩:=H;refine gd ?_ ?_<;>intro U
  ·refine gd ?_ ?_<;>intro G
   ·apply ye;(iterate 3 refine ya ?_);refine kU 3 ?_;refine yo ?_;(iterate 3 refine kS ?_);refine gf ?_ ?_<;>intro x2
    ·have V:sgF m l k s=2:=by unfold sgF;rw[j6 (.inl U),j7 (by omega)]
     refine gq ?_;all_goals(rw[Z,zb3 hs (by rw[V];decide),V])
    have h0:sgF m l k s=0:=by unfold sgF;rw[j6 (.inl U),j6 (by omega)]
    refine gq ?_;refine yu (k+1) (hJ:=by exact⟨by omega,by rw[Z,zdG hs h0]⟩)
   ·exact absurd U G
  ·refine gd ?_ ?_<;>intro N
   ·apply ye;(iterate 3 refine ya ?_);refine kU 3 ?_;refine yo ?_;(iterate 3 refine kS ?_);refine gf ?_ ?_<;>intro x1
    ·have V:sgF m l k s=2:=by unfold sgF;rw[j6 (.inr N),j7 (by omega)]
     refine gq ?_;all_goals(rw[Z,zb3 hs (by rw[V];decide),V])
    have h0:sgF m l k s=0:=by unfold sgF;rw[j6 (.inr N),j6 (by omega)]
    refine gq ?_;refine yu (k+1) (hJ:=by exact⟨by omega,by rw[Z,zdG hs h0]⟩)
   ·refine gd ?_ ?_<;>intro J
    ·apply yh;refine yW [35,36,37,38,39,40,41,42,43,44,45,46,47,48,49,50,51,52,53,54,55,56] [0,1,3,7,7,23,63,127,255,511,1023,2047,4095,4095,4095,20479,61439,126975,262143,524287,1048575,2097151] mo ?_;(iterate 3 refine yb ?_);(iterate 7 refine kZ ?_);(iterate 2 refine yb ?_);(iterate 6 refine kZ ?_);refine bK (zeG m _) ?_;(iterate 2 refine kZ ?_);refine yb ?_;refine yI ?_;refine gd ?_ ?_<;>intro E
     ·have V:sgF m l k s=13:=by rw[zo2 (by omega) J,j6 E]
      refine gq ?_;all_goals(rw[Z,zb3 hs (by rw[V];decide),V])
     have h0:sgF m l k s=0:=by rw[zo2 (by omega) J,j7 (λh=>by omega)]
     refine gq ?_;refine yu (k+1) (hJ:=by exact⟨by omega,by rw[Z,zdG hs h0]⟩)
    ·have V:sgF m l k s=8:=by unfold sgF;rw[j7 (by omega),j7 (by omega)]
     refine gq ?_;all_goals(rw[Z,zb3 hs (by rw[V];decide),V])
 ·refine gq ?_;all_goals(rw[Z,wH (by omega)];rfl)
end
section
attribute [local irreducible] Pur yy yz Ex X Fn Imp LeV LeB FnO It yH
def zax{m:Mn}{l:List Sg}(h:zar m l 0 l=0):∀k,k<=l.length->zar m l k (l.drop k)=0/\∀i s,i<k->l[i]? =some s->sgF m l i s=0
 |0,_=>⟨h,λi s hi=>absurd hi (u0 i)⟩
 |k+1,hk=>by
  obtain⟨h1,V⟩:=zax h k (by omega);have hs:l[k]? =some l[k]:=lgg (by omega)
  have h0:sgF m l k l[k]=0:=by
   by_cases h0:sgF m l k l[k]=0
   ·exact h0
   ·rw[zb3 hs h0]at h1;exact h1
  refine⟨by rw[←zdG hs h0];exact h1,λi s hi he=>?_⟩;rcases wG.1 hi with Z|Z
  ·exact V i s Z he
  ·subst Z;rw[hs]at he;injection he with he;subst he;exact h0
def zfg{m:Mn}{l:List Sg}(h:zar m l 0 l=0):∀k,k<=l.length->∀x,x∈yS l k->∃(j:Nat)(s p:Sg),x=((j+1:Nat):Int)/\l[j+1]? =some s/\l[j]? =some p
 |0,_,x,hx=>by simp[yS]at hx
 |k+1,hk,x,hx=>by
  simp only[yS,jY]at hx;rcases hx with hx|hx
  ·exact zfg h k (by omega) x hx
  ·have hs:l[k]? =some l[k]:=lgg (by omega);simp only[hs]at hx;split at hx
   ·rename_i Z;have h0:=(zax h (k+1) hk).2 k _ (by omega) hs;simp at hx;cases k with
    |zero=>unfold sgF at h0;rw[j7 (by omega),j6 Z]at h0;simp at h0
    |succ j=>exact⟨j,_,_,hx,hs,lgg (by omega)⟩
   ·simp at hx
def zd8(l:List Sg)(i:Int):Option Sg:=l[(i-1).toNat]?
def mnAt(m:Mn)(l:List Sg)(i:Int):List Int:=match zd8 l i with|some p=>mngs m p|none=>[]
def mnsD(m:Mn)(l:List Sg):List (List Int):=(yS l l.length).map (mnAt m l)
def zqh{m:Mn}{l:List Sg}{L:List Int}{k:Nat}{x:Int}{p:Sg}(h:L[k]? =some x)(Z:l[(x-1).toNat]? =some p):(L.take k).map (mnAt m l)++[mngs m p]=(L.take (k+1)).map (mnAt m l):=by
 have e:mnAt m l x=mngs m p:=by unfold mnAt zd8;rw[Z]
 rw[jG,h];simp[e]
def C_dot_Meanings(m:Mn)(l:List Sg)(hl:l.length<=1000):Fn prog 148 [mnA m,sgsA l] (.tup [zc7 (if ckD m l=0 then mnsD m l else[]),iv (ckD m l)]):=by
 refine kR func148 ntmps148 (λg w d=>?_);refine gc (zce m l hl) ?_;refine gd ?_ ?_<;>intro Z
 ·apply ye;refine yC ?_;refine kQ ?_;refine kM (yd (ts:=[(4,zc7 []),(5,iv (ckD m l))]) (hs:=[])) ?_;refine yl ?_ ?_;all_goals(first|(simp[Z];done)|(rw[j6 Z,←V];rfl)|(rw[j7 Z])|exact zE Z|rfl)
 apply yk;apply ye;refine yj ?_;iterate 2 apply yh
 refine kT (yG zjN 22 1 7 7 rfl rfl) ?_
 have U:zar m l 0 l=0:=by unfold ckD at Z;split at Z
                          ·exact Z
                          ·exact absurd Z (by assumption)
 refine gq ?_;refine yR (zi2 l hl) ?_;refine yQ ?_;apply kP;have E:=zbv l l.length;refine zm (λk=>[(1,sgsA l),(2,.ptr 2 0 0 0),(7,.own 7),(17,yc (yS l l.length)),(18,iv (yS l l.length).length),(19,iv (k:Int)),(5,iv 0)]) (λk=>[(2,.box (mnE m) 27),(7,.row zjN (((yS l l.length).take k).map (mnAt m l)) 22 1)]) ((yS l l.length).length) (λk hk=>?_) (h0:=yd);refine gd ?_ ?_<;>intro xT
 ·have T:=@getX _ (yS l l.length) k (by omega);obtain⟨x,hx,x4⟩:=T;obtain⟨j,s,p,x3,N,J⟩:=zfg U l.length (jE _) x (j8 hx);have x2:j+1<l.length:=(j5.1 N).1;have hp:l[(x-1).toNat]? =some p:=by rw[show(x-1).toNat=j by omega];exact J
  have H:=zqh (m:=m) hx hp;have x1:(((yS l l.length).take k).map (mnAt m l)).length<=1000:=by simp;omega
  refine gq ?_;refine yW [23,24,25,26,27,28,29,30,31] [0,0,0,0,8,28,60,126,254,511,1023] mo ?_;iterate 7 refine yb ?_
  refine yO (zeG m _) ?_;refine ChM.step rfl rfl rfl (zaj (k:=31) (enc:=zjN) (l:=[_]) zxd ty22 ze22 (by decide) rfl rfl rfl rfl (by decide) (by decide) (λ_=>rfl) rfl) rfl ?_;refine yI ?_;refine gq ?_;refine yu (k+1)
 ·have G:k=(yS l l.length).length:=by omega
  subst G;have V:((yS l l.length).take (yS l l.length).length).map (mnAt m l)=mnsD m l:=by rw[jK];rfl
  apply bA;apply ye;refine yC ?_;refine kQ ?_;refine kM (kL (k:=7) rfl) ?_;refine yl ?_ ?_;all_goals(first|(simp[Z];done)|(rw[j6 Z,←V];rfl)|(rw[j7 Z])|exact zE Z|rfl)
end
section
attribute [local irreducible] Pur yy yz Ex X Fn Imp LeV LeB FnO It yH
def zrJ(m:Mn)(s:Sg):(mngs m s).length<=2:=by
 unfold mngs;split
 ·exact jT (zgU _ _) (by simp)
 ·split
  ·simp
  ·split
   ·exact zgU _ _
   ·have:=zgU posI [m.aV s.Value];simp at this⊢;omega
def zkD{m:Mn}{l:List Sg}{x:List Int}(h:x∈mnsD m l):x.length<=2:=by
 obtain⟨i,_,rfl⟩:=jW.1 h;unfold mnAt;split
 ·exact zrJ _ _
 ·simp
def zgV(m:Mn)(l:List Sg):(mnsD m l).length<=l.length:=by simpa[mnsD]using zbv l l.length
end
end Go.Rse
