/-
  Contracts of the lib.
-/
import Derived.Test.YtpapdhoblekoeaaGreatDoorZShelf0
import Derived.Sort.OwnSortedInts
import Derived.Test.YtpapdhoblekoeaaGreatDoorZJRse49
set_option linter.all false
set_option maxHeartbeats 4000000
namespace Go.Rse
open Go Go.Proofs Go.Proofs.Tryz
section
variable{E:TypeId}{I:Im}{O:Owns}{args:List Value}{b d k:Nat}{l:List Int}{xs:List Value}{ρ:Nat->Value}
def zmJ(hl:xs.length=l.length*1)(h:∀(i:Nat)(x:Int)(j:Nat)(c:AV)(v:Value),l[i]? =some x->(intE x)[j]? =some c->xs[i*1+j]? =some v->RV I noNames c v):xs=l.map (Value.int .i64):=by
 apply wN;intro i;rw[j9];cases hx:l[i]? with
 |none=>
  have:l.length<=i:=ao hx
  rw[wO aa];rfl
 |some x=>
  have Q:i<xs.length:=by have:=(j5.1 hx).1;omega
  have N:=h i x 0 (iv x) xs[i] hx rfl (by simp[lgg Q]);rw[lgg Q,yK N];rfl
def zsf:∀(i:Nat)(x:Int)(j:Nat)(c:AV)(v:Value),l[i]? =some x->(intE x)[j]? =some c->(l.map (Value.int .i64))[i*1+j]? =some v->RV I noNames c v:=λi x j c v hx Q N=>by
 cases j with
 |zero=>
  simp[intE]at Q;simp[hx]at N;subst Q;subst N;exact .int _ _
 |succ j=>simp[intE]at Q
def zpl{ρ':Nat->Value}{w w':World}{l':List Int}(Q:Sat (C0 0 d ⟨ρ,I,O⟩ w) [(2000000,.row intE l E 1)] ⟨ρ,I,O⟩ w)(hρ:∀n,n≠2000000->ρ' n=ρ n)(hb:yT (ρ 2000000)=some b)(G:yT (ρ' 2000000)=some b)
 (hm:w.grownBy w' (some b))(xT:w.drawn<=w'.drawn)(hw:w'.ownsRow 0 E 1 (ρ' 2000000) l'.length (l'.map (Value.int .i64))):
 Sat (C0 0 d ⟨ρ,I,O⟩ w) [(2000000,.row intE l' E 1)] ⟨ρ',I,O⟩ w'/\Ext (C0 0 d ⟨ρ,I,O⟩ w) ⟨ρ',I,O⟩ w':=by
 have N:Rel (C0 0 d ⟨ρ,I,O⟩ w) ⟨[],[(2000000,.row intE l E 1)]⟩ ⟨ρ,I,O⟩ {tmps:= #[],defers:=[]} w:=⟨rfl,Dfs.nil _ _ _,λt x h=>by simp[lk]at h,Q,⟨bS _,rfl,rfl,rfl,jG _,jG _,λ_ _ _ _=>⟨rfl,rfl⟩,λb y n _ hy=>⟨n,hy⟩⟩⟩;obtain⟨xs,x2,h1,h2,h3⟩:=Q.blk 2000000 _ rfl;have h4:=h3 b hb
 have hr:=N.modifyR (g':=⟨ρ',I,O⟩) (k:=2000000) (bo:=some b) (B:=.row intE l' E 1) (d:=none) (x:=.any) (v:=.nilIface) rfl hρ (λ_ _=>rfl) (λb' e=>by injection e with e;subst e;exact h4) hm xT (Q.ob.up (bS _) hm.size) rfl (.any _)
  ⟨l'.map (Value.int .i64),hw,λi x _=>rfl,zsf,λb' K=>by
   have:b'=b:=by rw[G]at K;simpa using K.symm
   subst this;exact h4⟩
 refine⟨⟨hr.sat.im,hr.sat.ob,λk B H=>hr.sat.blk k B ?_⟩,hr.ext⟩;simp only[ym]at H⊢;cases hk:Nat.beq 2000000 k<;>simp[hk]at H⊢
 ·simp[lk]at H
 ·exact H
def srtI(l:List Int):List Int:=l.mergeSort λx y=>decide (x<=y)
def zgv(l:List Int):(srtI l).length=l.length:=vP l
def zpm(h:RVL I ρ [.own k] args):args=[ρ k]:=by
 obtain⟨hl,Q⟩:=h
 match args,hl with
 |[v],_=>rw[zn (Q 0 _ v rfl rfl)]
def zd4(l:List Int)(hl:l.length<=4000000000):FnO prog 225 [.own 2000000] [(2000000,.row intE l 3 1)] [2000000] (.tup []) [(2000000,.row intE (srtI l) 3 1)]:=by
 refine⟨ae,λd ρ I O w args Q K=>?_⟩;rw[zpm K];obtain⟨xs,hw,h1,h2,h3⟩:=Q.blk 2000000 _ rfl;have x2:=zmJ hw.1 h2;rcases hw.2 with⟨N,h0⟩|⟨b,cap,cur,N,x1,hh,x0,w2,G,v9⟩
 ·have N:ρ 2000000=.slice none 0 0:=N;have v8:l=[]:=jT h0;subst v8;have e0:srtI []=[]:=by simp[srtI]
  rw[N,e0];refine Calls.mono (Tryz.slices_Sort_int_none none 0 w) ?_
  rintro e w'⟨rfl,rfl⟩
  exact⟨_,ρ,I,O,rfl,Q,.tup [] [] rfl (λj c v h=>by simp at h),⟨bS _,rfl,rfl,rfl,jG _,jG _,λ_ _ _ _=>⟨rfl,rfl⟩,λb y n _ hy=>⟨n,hy⟩⟩,λ_ _=>rfl⟩
 ·have N:ρ 2000000=.slice (some ⟨b,0,none⟩) l.length cap:=N;rw[N];have H:=holds_of_blockI (ss:=l) hh (by rw[←x2,←v9];simp);refine Calls.mono (Tryz.slices_Sort_int b 0 cap l w H (zb hh) aa) ?_
  rintro e w'⟨rfl,n,os,rfl⟩
  have xT:=ownsRow_sortedI (n:=n) (os:=os) (base:=0) (ss:=l) (ts:=srtI l) (zgv l) x1 hh x0 w2 (ao G);obtain⟨s1,s2⟩:=zpl (ρ':=ρ) (l':=srtI l) Q (λ_ _=>rfl) (by rw[N];rfl) (by rw[N];rfl) (grownBy_sortedI (n:=n) (os:=os) (srtI l).toArray) (by show w.drawn<=w.drawn+n;omega) (by rw[N,zgv];exact xT);exact⟨_,ρ,I,O,rfl,s1,.tup [] [] rfl (λj c v h=>by simp at h),s2,λ_ _=>rfl⟩
def zc8(l:List Int)(hl:l.length<=4000000000):FnO prog 226 [.own 2000000] [(2000000,.row intE l 3 1)] [] (.own 2000000) [(2000000,.row intE (Lib.compact l) 3 1)]:=by
 refine⟨ae,λd ρ I O w args Q H=>?_⟩;rw[zpm H];obtain⟨xs,hw,h1,h2,h3⟩:=Q.blk 2000000 _ rfl;have w2:=zmJ hw.1 h2;rcases hw.2 with⟨N,h0⟩|⟨b,cap,cur,N,v9,hh,xT,v8,x2,v5⟩
 ·have N:ρ 2000000=.slice none 0 0:=N;have v4:l=[]:=jT h0;subst v4;have e0:Lib.compact ([]:List Int)=[]:=rfl;rw[N,e0];refine Calls.mono (Tryz.slices_Compact_int_empty none 0 w) ?_
  rintro e w'⟨rfl,rfl⟩
  exact⟨_,ρ,I,O,rfl,Q,.own _ _ _ _ N,⟨bS _,rfl,rfl,rfl,jG _,jG _,λ_ _ _ _=>⟨rfl,rfl⟩,λb y n _ hy=>⟨n,hy⟩⟩,λ_ h=>by simp at h⟩
 ·have N:ρ 2000000=.slice (some ⟨b,0,none⟩) l.length cap:=N;rw[N];have G:=holds_of_blockI (ss:=l) hh (by rw[←w2,←v5];simp);refine Calls.mono (Tryz.slices_Compact_int b 0 cap l w G aa xT) ?_
  rintro e w'⟨rfl,n,rfl⟩
  have v3:(Lib.compact l).length<=l.length:=Lib.compact_length_le l;have K:=ownsRow_sortedI (n:=n) (os:= #[]) (base:=0) (ss:=l) (ts:=Lib.compact l++List.replicate (l.length-(Lib.compact l).length) 0) aj v9 hh xT v8 (ao x2);have x1:=grownBy_sortedI (w:=w) (g:=b) (n:=n) (os:= #[]) (Lib.compact l++List.replicate (l.length-(Lib.compact l).length) 0).toArray;rw[Sort.grow_empty]at K x1
  obtain⟨s1,s2⟩:=zpl (ρ':=λk=>if k=2000000 then .slice (some ⟨b,0,none⟩) (Lib.compact l).length cap else ρ k) (l':=Lib.compact l) Q (λk hk=>by simp[hk]) (by rw[N];rfl) (by simp[yT]) x1 (by show w.drawn<=w.drawn+n;omega) (by
   refine⟨ah,?_⟩;rcases K.2 with⟨h,_⟩|⟨g',cap',cur',x0,v2,v1,k7,v0,k9,k8⟩
   ·simp at h
   ·simp at x0;obtain⟨rfl,rfl⟩:=x0;refine .inr ⟨b,cap,cur',ah,v2,v1,aa,v0,k9,?_⟩;have:=jA (List.take ((Lib.compact l).length*1)) k8;rw[kS]at this;simp only[Nat.mul_one,kM]at this⊢;rw[kO v3]at this;rw[this,wM ah,wE ah])
  exact⟨_,_,I,O,rfl,s1,.own _ _ _ _ ah,s2,λ_ h=>by simp at h⟩
end
attribute [local irreducible] Pur yy yu Ex X Fn Imp LeV LeB FnO It yA
section
variable{L:List Nat}{caps cs:List AV}{f:FuncId}{k:Nat}{l:List Int}{p:Int->Bool}{v:Int}{x:AV}{μ:List (Nat×Nat)}
def fidx(p:Int->Bool)(l:List Int):Int:=if l.findIdx p<l.length then(l.findIdx p:Int)else-1
def zmK(Q:l[k]? =some v)(N:p v=true)(hJ:∀i u,i<k->l[i]? =some u->p u=false):fidx p l=k:=by
 have hk:k<l.length:=(j5.1 Q).1;have K:l[k]=v:=(j5.1 Q).2;have:l.findIdx p=k:=(List.findIdx_eq hk).2 ⟨by rw[K];exact N,λj H=>hJ j _ H (lgg aa)⟩;unfold fidx;rw[this,j7 hk]
def zkr(hJ:∀i u,i<l.length->l[i]? =some u->p u=false):fidx p l=-1:=by
 have:l.findIdx p=l.length:=vL.2 λx hx=>by
  obtain⟨i,hi⟩:=jL.1 hx;simpa using hJ i x (j5.1 hi).1 hi
 unfold fidx;rw[j8 aa]
def zcA(l:List Int)(hl:l.length<=4000000000)(fp:FuncId)(caps:List AV)(p:Int->Bool)(hn:AV.nm.nmL caps=true)(hp:∀v,v∈l->Fn prog fp ([iv v]++caps) (.bool (p v))):FnO prog 259 [.own 2000000,.fn fp caps] [(2000000,.row intE l 3 1)] [2000000] (iv (fidx p l)) [(2000000,.row intE l 3 1)]:=by
 refine bR [.own 2000000] func259 ntmps259 (λg w d vs=>?_);apply yc;refine yk ?_;apply ye;apply yc;refine yo ?_;apply kX;refine zag (ι:=Nat) [0,1,7] (λ(k:Nat)zz=>(8,iv k)::zz) [1000001,2000000] (λ(k:Nat)zz=>zz) (λ(k:Nat)=>k<=l.length/\∀i u,i<k->l[i]? =some u->p u=false) (λ(k:Nat)=>l.length-k) 0 (λk hk=>?_) (hJ:=by exact⟨aa,λi u h=>absurd h (vU i)⟩);obtain⟨xT,Q⟩:=hk;refine gd ?_ ?_<;>intro x2
 ·have H:=@getX _ l k aa;obtain⟨v,G,x1⟩:=H;apply yf;apply ye;apply kX;apply yc;iterate 2 refine ya ?_
  apply yp;iterate 5 refine ya ?_
  refine Ex.call rfl rfl (by simpa[AV.nm.nmL,AV.nm]using hn) (hp v (j6 G)) rfl ?_;refine gd ?_ ?_<;>intro N
  ·have he:=zmK G N Q;apply yc;refine yC ?_;refine bC ?_;rw[he];refine zm4.mk (ts:=[(4,iv k)]) (.inr rfl) (yh) (.one (.tmp rfl (kZ rfl)))
  refine gq ?_
  refine yr (k+1) (hJ:=by
   refine⟨aa,λi u hi K=>?_⟩;rcases uJ.1 hi with h|h
   ·exact Q i u h K
   ·subst h;rw[G]at K;injection K with K;subst K;exact N)
 ·have he:=zkr (p:=p) (l:=l) λi u hi=>Q i u aa
  apply bH;apply yc;refine yk ?_;refine bC ?_;rw[he];refine zm4.mk (ts:=[(4,iv (-1))]) (.inr rfl) (yh) (.one (.tmp rfl (kZ rfl)))
def zzQ(h:x.nm=true):ok1 L x=true:=by
 cases x<;>first|exact h|(simp[AV.nm]at h)
def zuK(h:x.nm=true):ren1 μ x=x:=by
 cases x<;>first|rfl|(simp[AV.nm]at h)
def zpn(h:AV.nm.nmL cs=true):∀x∈cs,x.nm=true:=λx hx=>by
 obtain⟨j,Q⟩:=jL.1 hx;exact zw h Q
def zCM(h:AV.nm.nmL caps=true):AV.okN L (.fn f caps)=true:=
 jF.2 λx hx=>zzQ (zpn h x hx)
def zzR(h:AV.nm.nmL caps=true):AV.fn f caps=AV.ren μ (.fn f caps):=by
 have:caps.map (ren1 μ)=caps:=by
  have Q:caps.map (ren1 μ)=caps.map id:=List.map_congr_left λx hx=>zuK (zpn h x hx)
  simpa using Q
 show AV.fn f caps=AV.fn f (caps.map (ren1 μ));rw[this]
def dl(p:Int->Bool)(l:List Int):List Int:=l.filter λv=>!p v
def zlO(h:l[k]? =some v):dl p (l.take (k+1))=dl p (l.take k)++(if p v=true then[]else[v]):=by
 have:l.take (k+1)=l.take k++[v]:=by rw[jK,h];rfl
 rw[dl,this,uO];cases Q:p v<;>simp[dl,Q]
def znU(p:Int->Bool)(l:List Int):(fidx p l=-1/\dl p l=l)\/∃(k:Nat)(v:Int),fidx p l=(k:Int)/\l[k]? =some v/\p v=true/\dl p (l.take k)=l.take k:=by
 unfold fidx;split
 ·rename_i h;refine .inr ⟨l.findIdx p,l[l.findIdx p],rfl,lgg h,List.findIdx_getElem (w:=h),?_⟩;refine xQ.2 λx hx=>?_
  obtain⟨i,hi⟩:=jL.1 hx;rw[w4]at hi;split at hi
  ·rename_i Q;have:=List.not_of_lt_findIdx Q;have N:l[i]=x:=(j5.1 hi).2;rw[N]at this;simpa using this
  ·simp at hi
 ·rename_i h;refine .inl ⟨rfl,xQ.2 λx hx=>?_⟩;have K:l.findIdx p=l.length:=Nat.le_antisymm List.findIdx_le_length aa;have:=(vL.1 K) x hx;simpa using this
def zcg(l:List Int)(hl:l.length<=4000000000)(fp:FuncId)(caps:List AV)(p:Int->Bool)(hn:AV.nm.nmL caps=true)(hp:∀v,v∈l->Fn prog fp ([iv v]++caps) (.bool (p v))):FnO prog 222 [.own 2000000,.fn fp caps] [(2000000,.row intE l 3 1)] [] (.own 2000000) [(2000000,.row intE (dl p l) 3 1)]:=by
 have G:=znU p l;refine bR [] func222 ntmps222 (λg w d vs=>?_);apply yc;refine ya ?_;apply yp;iterate 2 refine ya ?_
 refine zbr [(2000000,2000000)] (zcA l hl fp caps p hn hp) rfl rfl rfl (.cons (bM _) (.cons (kZ (zzR hn)) .nil)) (by simp only[xS,List.all_nil,zCM hn,Bool.and_true];rfl) rfl ⟨⟨_,_,rfl,rfl,bN _,rfl⟩,trivial⟩ rfl rfl rfl rfl ?_;refine gd ?_ ?_<;>intro v1
 ·apply yc;refine yC ?_;refine bC ?_;have he:=(G.resolve_right (λ⟨k,_,h,_⟩=>by omega)).2;have x0:l=dl p l:=he.symm;refine zm4.mk (ts:=[(4,.own 2000000)]) (.inr rfl) (yh) (.one (.tmp rfl (kZ rfl)))
 obtain⟨k0,v0,k9,xT,w2,v9⟩:=G.resolve_left (λh=>by omega);have v3:k0<l.length:=(j5.1 xT).1;have x2:dl p (l.take (k0+1))=l.take k0:=by rw[zlO xT,j7 w2,v9,wQ]
 have v8:(dl p (l.take (k0+1))).length=k0:=by rw[x2,jO];omega
 have K:l=dl p (l.take (k0+1))++l.drop (dl p (l.take (k0+1))).length:=by rw[v8,x2,wV]
 refine gq ?_
 refine ze8 (ι:=Nat) (λ(k:Nat)=>[(0,.own 2000000),(1,.fn fp caps),(5,iv ((dl p (l.take k)).length:Int)),(6,iv (k:Int))]) (λ(k:Nat)=>[(1000001,.hold vs []),(2000000,.row intE (dl p (l.take k)++l.drop (dl p (l.take k)).length) 3 1)]) (λ(k:Nat)=>k<=l.length/\(dl p (l.take k)).length<k) (λ(k:Nat)=>l.length-k) (k0+1) (λk hk=>?_) (hJ:=by exact⟨aa,aa⟩) (h0:=by
  refine c7 ⟨⟨_,rfl,bM _⟩,⟨_,rfl,bM _⟩,⟨_,rfl,kZ (jA (AV.int .i64) aa)⟩,⟨_,rfl,kZ (jA (AV.int .i64) aa)⟩,trivial⟩ ⟨⟨_,rfl,bN _⟩,⟨_,rfl,bW K⟩,trivial⟩)
 obtain⟨k8,k7⟩:=hk;have k6:(dl p (l.take k)++l.drop (dl p (l.take k)).length).length=l.length:=aj
 refine gd ?_ ?_<;>intro k5
 ·obtain⟨v,hv⟩:∃v,l[k]? =some v:=⟨_,lgg aa⟩
  have k4:(dl p (l.take k)++l.drop (dl p (l.take k)).length)[(k:Int).toNat]? =some v:=by
   rw[jN,wC aa,wI,show(dl p (l.take k)).length+(k-(dl p (l.take k)).length)=k by omega];exact hv
  apply yf;apply ye;apply kX;apply yc;iterate 5 refine ya ?_
  apply yp;iterate 2 refine ya ?_
  refine Ex.call rfl rfl (by simpa[AV.nm.nmL,AV.nm]using hn) (hp v (j6 hv)) rfl ?_;refine gd ?_ ?_<;>intro x1
  ·have Q:dl p (l.take (k+1))=dl p (l.take k)++[v]:=by rw[zlO hv,j8 (by simp[x1])]
   have N:(dl p (l.take (k+1))).length=(dl p (l.take k)).length+1:=by rw[Q];simp
   have H:(dl p (l.take k)++l.drop (dl p (l.take k)).length).set (((dl p (l.take k)).length:Nat):Int).toNat v=dl p (l.take (k+1))++l.drop (dl p (l.take (k+1))).length:=by
    rw[N,Q,jN,vQ _ _ (jG _),Nat.sub_self];have h9:(l.drop (dl p (l.take k)).length).set 0 v=v::l.drop ((dl p (l.take k)).length+1):=by rw[jQ (show(dl p (l.take k)).length<l.length by omega)];rfl
    rw[h9];simp
   refine gq ?_
   refine yr (k+1) (hJ:=by
    refine⟨aa,?_⟩;rw[N];omega)
  ·have Q:dl p (l.take (k+1))=dl p (l.take k):=by rw[zlO hv,j7 (ao x1),wQ]
   have N:(dl p (l.take (k+1))).length=(dl p (l.take k)).length:=by rw[Q]
   have H:dl p (l.take k)++l.drop (dl p (l.take k)).length=dl p (l.take (k+1))++l.drop (dl p (l.take (k+1))).length:=by rw[Q]
   refine gq ?_
   refine yr (k+1) (hJ:=by
    refine⟨aa,?_⟩;rw[N];omega)
 ·have v5:k=l.length:=aa
  subst v5;have v4:(((dl p (l.take l.length)).length:Nat):Int).toNat+((dl p (l.take l.length)++l.drop (dl p (l.take l.length)).length).length-(((dl p (l.take l.length)).length:Nat):Int).toNat)=(dl p (l.take l.length)++l.drop (dl p (l.take l.length)).length).length:=by rw[jN];omega
  apply bH;apply yc;iterate 2 refine ya ?_
  refine yO (y8 rfl rfl rfl sl22 ty3 aa aa) rfl ?_;refine yX (zpH (0:Int) rfl rfl (λ_=>rfl) ac sl22 ti3 rfl rfl rfl v4) ?_;refine gq ?_;refine yX (zjB rfl rfl rfl sl22 ty3 aa aj rfl) ?_;refine yk ?_;refine bC ?_
  have v2:List.take (((dl p (l.take l.length)).length:Nat):Int).toNat (List.take (((dl p (l.take l.length)).length:Nat):Int).toNat (dl p (l.take l.length)++l.drop (dl p (l.take l.length)).length)++List.replicate ((dl p (l.take l.length)++l.drop (dl p (l.take l.length)).length).length-(((dl p (l.take l.length)).length:Nat):Int).toNat) 0)=dl p l:=by
   rw[jN,wM ah,kS,Nat.min_self,wM (jG _),wE (jG _),wE (jG _)]
  refine zm4.mk (ts:=[(4,.own 2000000)]) (.inr rfl) (yh) (.one (.tmp rfl (kZ rfl)))
end
section
def coll(p:Int->Bool)(l:List Int):List Int:=Lib.compact (srtI (dl (λv=>!p v) l))
def zgw(p:Int->Bool)(l:List Int):(coll p l).length<=l.length:=jV (Lib.compact_length_le _) (by rw[zgv];exact uA _ _)
def zhv(p:Int->Bool)(l:List Int):(dl p l).length<=l.length:=uA _ _
def ze6(fp:FuncId)(p:Int->Bool)(v:Int)(Q:Fn prog fp [iv v] (.bool (p v))):Fn prog 224 [iv v,.ept (λ_:Unit=>[.fn fp []]) () 0] (.bool (!p v)):=by
 refine bB func224 ntmps224 (λg w d=>?_);refine gc Q ?_;all_goals exact zR
def zbD(l:List Int)(hl:l.length<=4000000000)(fp:FuncId)(p:Int->Bool)(Q:∀v,v∈l->Fn prog fp [iv v] (.bool (p v))):Fn prog 188 [yj l,.fn fp []] (yj (coll p l)):=by
 refine bB func188 ntmps188 (λg w d=>?_);apply yc;refine zax ?_;refine ya ?_;apply yp;refine ya ?_;refine zbr [(5,6)] (zW l hl) rfl rfl rfl (bK _) rfl rfl trivial rfl rfl rfl rfl ?_;refine yY (bG (k:=3) rfl rfl) ?_;refine yO (zfI rfl) rfl ?_;refine zbr [(2000000,6),(2000002,8)] (zfK 2000002 (zcg l hl 224 [.ept (λ_:Unit=>[.fn fp []]) () 0] (λv=>!p v) rfl (λv N=>ze6 fp p v (Q v N))) rfl) rfl rfl rfl (bK _) rfl rfl ⟨⟨_,_,rfl,rfl,bN _,rfl⟩,trivial⟩ rfl rfl rfl rfl ?_;refine ya ?_;apply yp;refine ya ?_;refine zbr [(2000000,8)] (zd4 (dl (λv=>!p v) l) (jV (zhv _ _) hl)) rfl rfl rfl (bK _) rfl rfl ⟨⟨_,_,rfl,rfl,bN _,rfl⟩,trivial⟩ rfl rfl rfl rfl ?_;apply yp;refine ya ?_;refine zbr [(2000000,8),(2000002,12)] (zfK 2000002 (zc8 (srtI (dl (λv=>!p v) l)) (by rw[zgv];exact jV (zhv _ _) hl)) rfl) rfl rfl rfl (bK _) rfl rfl ⟨⟨_,_,rfl,rfl,bN _,rfl⟩,trivial⟩ rfl rfl rfl rfl ?_;refine yk ?_;refine bC ?_;refine yi (kY (k:=12) rfl) ?_;refine gq ?_;all_goals exact zR
def Mn.aV(m:Mn)(v:Int):Int:=if ckMV m v=0 then m.ab v else 0
def Mn.pV(m:Mn)(v:Int):Int:=if ckMV m v=0 then m.p v else 0
def posI(v:Int):Bool:=decide (0<v)
def mngs(m:Mn)(s:Sg):List Int:=
 if s.Kind=2 then coll posI [m.aV s.Value]else if s.Color then[0]else if m.pV s.Value=3 then coll posI [s.Value,m.aV s.Value]else 0::coll posI [m.aV s.Value]
def zbP(v:Int):Fn prog 187 [iv v] (.bool (posI v)):=by
 refine bB func187 ntmps187 (λg w d=>?_);refine gq ?_;all_goals exact zR
def zen(m:Mn)(s:Sg):Fn prog 151 [mnA m,sgA s] (yj (mngs m s)):=by
 refine bB func151 ntmps151 (λg w d=>?_);refine gc (zgi m s.Value) ?_;refine gc (zgh m s.Value) ?_;refine gd ?_ ?_<;>intro Q
 ·refine gq ?_;refine yH intE [_] ?_;refine ya ?_;refine yY (kY (k:=29) rfl) ?_;refine Ex.call rfl rfl rfl (zbD [m.aV s.Value] ah _ posI (λv _=>zbP v)) rfl ?_;refine gq ?_;all_goals(simp[mngs,Q])
 refine gd ?_ ?_<;>intro H
 ·apply yc;refine yH intE [_] ?_;refine yk ?_;refine bC ?_;refine yi (kY (k:=35) rfl) ?_;refine gq ?_;all_goals(simp[mngs, *];rfl)
 refine gd ?_ ?_<;>intro N
 ·have K:m.pV s.Value=3:=N;refine gq ?_;refine yH intE [_,_] ?_;refine ya ?_;refine yY (kY (k:=42) rfl) ?_;refine Ex.call rfl rfl rfl (zbD [s.Value,m.aV s.Value] ah _ posI (λv _=>zbP v)) rfl ?_;refine gq ?_;all_goals(simp[mngs,Q,H,K])
 have K:¬m.pV s.Value=3:=N;have G:(coll posI [m.aV s.Value]).length<=1:=zgw _ _;refine gq ?_;refine yH intE [_] ?_;refine gq ?_;refine yH intE [_] ?_;refine ya ?_;refine yY (kY (k:=47) rfl) ?_;refine Ex.call rfl rfl rfl (zbD [m.aV s.Value] ah _ posI (λv _=>zbP v)) rfl ?_;refine bF ?_;refine yk ?_;refine bC ?_;refine yi (kY (k:=45) rfl) ?_;refine gq ?_;all_goals(simp[mngs, *];rfl)
end
section
def zh(l:List Sg):Nat->List Int
 |0=>[]
 |k+1=>zh l k++(match l[k]? with|some s=>if s.Kind=3 then[(k:Int)]else[]|none=>[])
def zcm(l:List Sg):∀k,(zh l k).length<=k
 |0=>jG _
 |k+1=>by
  have:=zcm l k;simp only[zh,jJ];split
  ·split<;>simp<;>omega
  ·simp;omega
def zi5(l:List Sg)(hl:l.length<=1000):Fn prog 191 [sgsA l] (yj (zh l l.length)):=by
 refine bB func191 ntmps191 (λg w d=>?_);apply yc;refine ya ?_;apply yp;refine yk ?_;iterate 2 apply ye
 refine yl (yz intE 3 1 3 3 rfl rfl) ?_;apply yd;refine yo ?_;apply kX;refine y9 [3,6,7] (λk zz=>(8,iv (k:Int))::zz) [] (λk zz=>(3,.row intE (zh l k) 3 1)::zz) l.length (λk hk=>?_);refine gd ?_ ?_<;>intro G
 ·have K:=@getX _ l k aa;obtain⟨s,hs,xT⟩:=K;have x2:=zcm l k;refine gd ?_ ?_<;>intro N
  ·have Q:zh l k++[(k:Int)]=zh l (k+1):=by simp[zh,hs,N]
   refine gq ?_;refine yH intE [_] ?_;refine gq ?_;refine yr (k+1)
  ·have Q:zh l k=zh l (k+1):=by simp[zh,hs,N]
   refine gq ?_;refine yr (k+1)
 ·have H:k=l.length:=aa
  subst H;apply bH;apply yc;refine yC ?_;refine bC ?_;refine yi (kY (k:=3) rfl) ?_;refine gq ?_;all_goals exact zR
end
section
variable{k:Nat}{l:List Sg}{s:Sg}
def sgF(m:Mn)(l:List Sg)(k:Nat)(s:Sg):Int:=
 if s.Kind=1\/s.Kind=2 then(if 1<=s.Value/\s.Value<=8 then 0 else 2)
 else if s.Kind=3 then(match k with|0=>13|j+1=>match l[j]? with|some p=>if p.Kind=3\/(mngs m p).length=0 then 13 else 0|none=>13)
 else 8
def zas(m:Mn)(l:List Sg):Nat->List Sg->Int
 |_,[]=>0
 |k,s::r=>if sgF m l k s=0 then zas m l (k+1) r else sgF m l k s
def ckD(m:Mn)(l:List Sg):Int:=if ckM m=0 then zas m l 0 l else ckM m
def zeR{m:Mn}(h:l[k]? =some s)(h0:sgF m l k s=0):zas m l k (l.drop k)=zas m l (k+1) (l.drop (k+1)):=by
 have hk:k<l.length:=(j5.1 h).1;rw[jQ hk];have:l[k]=s:=(j5.1 h).2;rw[this];simp only[zas,h0,if_true]
def zcB{m:Mn}(h:l[k]? =some s)(h0:sgF m l k s≠0):zas m l k (l.drop k)=sgF m l k s:=by
 have hk:k<l.length:=(j5.1 h).1;rw[jQ hk];have:l[k]=s:=(j5.1 h).2;rw[this];simp only[zas,j8 h0]
def zpo{m:Mn}(hk:k<l.length)(Q:s.Kind=3):sgF m l k s=if((k:Int)=0\/(l.getD ((k:Int)-1).toNat default).Kind=3)\/((mngs m (l.getD ((k:Int)-1).toNat default)).length:Int)=0 then 13 else 0:=by
 unfold sgF;rw[j8 aa,j7 Q];cases k with
 |zero=>simp
 |succ j=>
  have e:(((j+1:Nat):Int)-1).toNat=j:=aa
  have N:l[j]? =some (l.getD j default):=by rw[jB,lgg aa];rfl
  rw[e];simp only[N];generalize l.getD j default=p;by_cases h1:p.Kind=3
  ·simp[h1]
  ·by_cases K:(mngs m p).length=0
   ·rw[j7 (.inr K),j7 (.inr aa)]
   ·rw[j8 aa,j8 aa]
def zcT(m:Mn)(l:List Sg)(hl:l.length<=1000):Fn prog 105 [mnA m,sgsA l] (iv (ckD m l)):=by
 refine bB func105 ntmps105 (λg w d=>?_);refine gc (zce m) ?_;refine gd ?_ ?_<;>intro H
 ·refine gq ?_;all_goals(first|rfl|(unfold ckD;rw[j8 H]))
 apply yf;apply ye;apply yc;refine yo ?_;apply kX;refine zag (ι:=Nat) [1,2,13,14] (λ(k:Nat)zz=>(15,iv (k:Int))::zz) [2] (λ(k:Nat)zz=>zz) (λ(k:Nat)=>k<=l.length/\ckD m l=zas m l k (l.drop k)) (λ(k:Nat)=>l.length-k) 0 (λk hk=>?_) (hJ:=by exact⟨aa,by unfold ckD;rw[j7 H];rfl⟩);obtain⟨w2,Q⟩:=hk;refine gd ?_ ?_<;>intro v9
 ·have x2:=@getX _ l k aa;obtain⟨s,hs,v8⟩:=x2;refine gd ?_ ?_<;>intro K
  ·refine gd ?_ ?_<;>intro x1
   ·apply yc;(iterate 3 refine ya ?_);refine bI 3 ?_;refine yw ?_;(iterate 3 refine bE ?_);refine gf ?_ ?_<;>intro v5
    ·have N:sgF m l k s=2:=by unfold sgF;rw[j7 (.inl K),j8 aa]
     refine gq ?_;all_goals(rw[Q,zcB hs (by rw[N];decide),N])
    have h0:sgF m l k s=0:=by unfold sgF;rw[j7 (.inl K),j7 aa]
    refine gq ?_;refine yr (k+1) (hJ:=by exact⟨aa,by rw[Q,zeR hs h0]⟩)
   ·exact absurd K x1
  ·refine gd ?_ ?_<;>intro G
   ·apply yc;(iterate 3 refine ya ?_);refine bI 3 ?_;refine yw ?_;(iterate 3 refine bE ?_);refine gf ?_ ?_<;>intro v4
    ·have N:sgF m l k s=2:=by unfold sgF;rw[j7 (.inr G),j8 aa]
     refine gq ?_;all_goals(rw[Q,zcB hs (by rw[N];decide),N])
    have h0:sgF m l k s=0:=by unfold sgF;rw[j7 (.inr G),j7 aa]
    refine gq ?_;refine yr (k+1) (hJ:=by exact⟨aa,by rw[Q,zeR hs h0]⟩)
   ·refine gd ?_ ?_<;>intro xT
    ·apply ye;refine y4 [35,36,37,38,39,40,41,42,43,44,45,46,47,48,49,50,51,52,53,54,55,56] [0,1,3,7,7,23,63,127,255,511,1023,2047,4095,4095,4095,20479,61439,126975,262143,524287,1048575,2097151] mo ?_;(iterate 3 refine yb ?_);(iterate 7 refine bL ?_);(iterate 2 refine yb ?_);(iterate 6 refine bL ?_);refine bZ (zen m _) ?_;(iterate 2 refine bL ?_);refine yb ?_;refine yD ?_;refine gd ?_ ?_<;>intro x0
     ·have N:sgF m l k s=13:=by rw[zpo aa xT,j7 x0]
      refine gq ?_;all_goals(rw[Q,zcB hs (by rw[N];decide),N])
     have h0:sgF m l k s=0:=by rw[zpo aa xT,j8 (λh=>by omega)]
     refine gq ?_;refine yr (k+1) (hJ:=by exact⟨aa,by rw[Q,zeR hs h0]⟩)
    ·have N:sgF m l k s=8:=by unfold sgF;rw[j8 aa,j8 aa]
     refine gq ?_;all_goals(rw[Q,zcB hs (by rw[N];decide),N])
 ·refine gq ?_;all_goals(rw[Q,wT aa];rfl)
end
section
variable{L:List Int}{k:Nat}{l:List Sg}{p:Sg}{x:Int}
def zbi{m:Mn}{l:List Sg}(h:zas m l 0 l=0):∀k,k<=l.length->zas m l k (l.drop k)=0/\∀i s,i<k->l[i]? =some s->sgF m l i s=0
 |0,_=>⟨h,λi s hi=>absurd hi (vU i)⟩
 |k+1,hk=>by
  obtain⟨h1,N⟩:=zbi h k aa;have hs:l[k]? =some l[k]:=lgg aa
  have h0:sgF m l k l[k]=0:=by
   by_cases h0:sgF m l k l[k]=0
   ·exact h0
   ·rw[zcB hs h0]at h1;exact h1
  refine⟨by rw[←zeR hs h0];exact h1,λi s hi he=>?_⟩;rcases uJ.1 hi with Q|Q
  ·exact N i s Q he
  ·subst Q;rw[hs]at he;injection he with he;subst he;exact h0
def zdn{m:Mn}{l:List Sg}(h:zas m l 0 l=0):∀k,k<=l.length->∀x,x∈zh l k->∃(j:Nat)(s p:Sg),x=((j+1:Nat):Int)/\l[j+1]? =some s/\l[j]? =some p
 |0,_,x,hx=>by simp[zh]at hx
 |k+1,hk,x,hx=>by
  simp only[zh,w9]at hx;rcases hx with hx|hx
  ·exact zdn h k aa x hx
  ·have hs:l[k]? =some l[k]:=lgg aa;simp only[hs]at hx;split at hx
   ·rename_i Q;have h0:=(zbi h (k+1) hk).2 k _ aa hs;simp at hx;cases k with
    |zero=>unfold sgF at h0;rw[j8 aa,j7 Q]at h0;simp at h0
    |succ j=>exact⟨j,_,_,hx,hs,lgg aa⟩
   ·simp at hx
def zhw(l:List Sg)(i:Int):Option Sg:=l[(i-1).toNat]?
def mnAt(m:Mn)(l:List Sg)(i:Int):List Int:=match zhw l i with|some p=>mngs m p|none=>[]
def mnsD(m:Mn)(l:List Sg):List (List Int):=(zh l l.length).map (mnAt m l)
def zqg{m:Mn}(h:L[k]? =some x)(Q:l[(x-1).toNat]? =some p):(L.take k).map (mnAt m l)++[mngs m p]=(L.take (k+1)).map (mnAt m l):=by
 have e:mnAt m l x=mngs m p:=by unfold mnAt zhw;rw[Q]
 rw[jK,h];simp[e]
def C_dot_Meanings(m:Mn)(l:List Sg)(hl:l.length<=1000):Fn prog 189 [mnA m,sgsA l] (.tup [zmd (if ckD m l=0 then mnsD m l else[]),iv (ckD m l)]):=by
 refine bB func189 ntmps189 (λg w d=>?_);refine gc (zcT m l hl) ?_;refine gd ?_ ?_<;>intro Q
 ·apply yc;refine yo ?_;refine bC ?_;refine yi (yh (ts:=[(4,zmd []),(5,iv (ckD m l))]) (hs:=[])) ?_;refine yn ?_ ?_;all_goals(first|(simp[Q];done)|(rw[j7 Q,←N];rfl)|(rw[j8 Q])|exact zE Q|rfl)
 apply yf;apply yc;refine yk ?_;iterate 2 apply ye
 refine yl (yz zcZ 22 1 7 7 rfl rfl) ?_
 have K:zas m l 0 l=0:=by unfold ckD at Q;split at Q
                          ·exact Q
                          ·exact absurd Q ai
 refine gq ?_;refine zf (zi5 l hl) ?_;refine yC ?_;apply kX;have x0:=zcm l l.length;refine y9 [1,2,7,17,18,5] (λk zz=>(19,iv (k:Int))::zz) [2] (λk zz=>(7,.row zcZ (((zh l l.length).take k).map (mnAt m l)) 22 1)::zz) ((zh l l.length).length) (λk hk=>?_);refine gd ?_ ?_<;>intro w2
 ·have H:=@getX _ (zh l l.length) k aa;obtain⟨x,hx,v9⟩:=H;obtain⟨j,s,p,v8,G,xT⟩:=zdn K l.length (jG _) x (j6 hx);have v5:j+1<l.length:=(j5.1 G).1;have hp:l[(x-1).toNat]? =some p:=by rw[show(x-1).toNat=j by omega];exact xT
  have x2:=zqg (m:=m) hx hp;have v4:(((zh l l.length).take k).map (mnAt m l)).length<=1000:=aj
  refine gq ?_;refine y4 [23,24,25,26,27,28,29,30,31] [0,0,0,0,8,28,60,126,254,511,1023] mo ?_;iterate 7 refine yb ?_
  refine yI (zen m _) ?_;refine ChM.step rfl rfl rfl (zx (k:=31) (enc:=zcZ) (l:=[_]) zyq ty22 ze22 ac rfl rfl rfl rfl ac ac (λ_=>rfl) rfl) rfl ?_;refine yD ?_;refine gq ?_;refine yr (k+1)
 ·have x1:k=(zh l l.length).length:=aa
  subst x1;have N:((zh l l.length).take (zh l l.length).length).map (mnAt m l)=mnsD m l:=by rw[jR];rfl
  apply bH;apply yc;refine yo ?_;refine bC ?_;refine yi (kY (k:=7) rfl) ?_;refine yn ?_ ?_;all_goals(first|(simp[Q];done)|(rw[j7 Q,←N];rfl)|(rw[j8 Q])|exact zE Q|rfl)
end
section
variable{L:List (List Int)}{k:Nat}{l:List Sg}{n:Int}{x:List Int}
def cntF:Int->List (List Int)->Int
 |n,[]=>n
 |n,x::r=>if n*x.length>64 then n*x.length else cntF (n*x.length) r
def zsg(m:Mn)(s:Sg):(mngs m s).length<=2:=by
 unfold mngs;split
 ·exact jV (zgw _ _) ah
 ·split
  ·simp
  ·split
   ·exact zgw _ _
   ·have:=zgw posI [m.aV s.Value];simp at this⊢;omega
def zhb{m:Mn}(h:x∈mnsD m l):x.length<=2:=by
 obtain⟨i,_,rfl⟩:=jS.1 h;unfold mnAt;split
 ·exact zsg _ _
 ·simp
def zgx(m:Mn)(l:List Sg):(mnsD m l).length<=l.length:=by simpa[mnsD]using zcm l l.length
def zks(h:L[k]? =some x):cntF n (L.drop k)=if n*x.length>64 then n*x.length else cntF (n*x.length) (L.drop (k+1)):=by
 have hk:k<L.length:=(j5.1 h).1;rw[jQ hk];have:L[k]=x:=(j5.1 h).2;rw[this];rfl
def cntV(m:Mn)(l:List Sg):Int:=if ckD m l=0 then(if cntF 1 (mnsD m l)>64 then 0 else cntF 1 (mnsD m l))else 0
def cntE(m:Mn)(l:List Sg):Int:=if ckD m l=0 then(if cntF 1 (mnsD m l)>64 then 15 else 0)else ckD m l
def zhx(m:Mn)(l:List Sg)(hl:l.length<=1000):Fn prog 330 [mnA m,sgsA l] (.tup [iv (cntV m l),iv (cntE m l)]):=by
 refine bB func330 ntmps330 (λg w d=>?_);refine gc (C_dot_Meanings m l hl) ?_;refine gd ?_ ?_<;>intro Q
 ·refine gq ?_;refine yn ?_ ?_;all_goals(first|(unfold cntV;rw[j8 Q];done)|(unfold cntE;rw[j8 Q];done))
 apply yf;apply yc;refine yk ?_;apply ye;refine X.label ?_;iterate 2 apply ye
 have H:(if ckD m l=0 then mnsD m l else[])=mnsD m l:=j7 Q;have x1:=zgx m l;rw[H];apply yd;refine yo ?_;apply kX;refine zag (ι:=Nat×Int) [20,21] (λ(p:Nat×Int)zz=>(8,iv p.2)::(22,iv (p.1:Int))::zz) [] (λ(p:Nat×Int)zz=>zz) (λ(p:Nat×Int)=>p.1<=(mnsD m l).length/\0<=p.2/\p.2<=64/\cntF 1 (mnsD m l)=cntF p.2 ((mnsD m l).drop p.1)) (λ(p:Nat×Int)=>(mnsD m l).length-p.1) (0,1) (λp hk=>?_) (hJ:=by exact⟨ah,ah,ah,rfl⟩);obtain⟨k,n⟩:=p;obtain⟨x0,G,xT,N⟩:=hk;dsimp only at*
 refine gd ?_ ?_<;>intro w2
 ·have x2:=@getX _ (mnsD m l) k aa;obtain⟨x,hx,v9⟩:=x2;have v8:=zhb (j6 hx);have v5:0<=n*(x.length:Int):=uU G aa;have v4:n*(x.length:Int)<=64*2:=xF xT aa aa aa;refine gd ?_ ?_<;>intro v3
  ·have K:cntF 1 (mnsD m l)=n*(x.length:Int):=by rw[N,zks hx,j7 aa]
   refine gd ?_ ?_<;>intro v2
   ·refine gq ?_;refine yn ?_ ?_;all_goals(first|(unfold cntV;rw[j7 Q,K,j7 aa];done)|(unfold cntE;rw[j7 Q,K,j7 aa];done))
   omega
  refine gq ?_;refine yr ((k+1,n*(x.length:Int))) (hJ:=by exact⟨aa,aa,aa,by rw[N,zks hx,j8 aa]⟩) (hm:=am)
 ·have K:cntF 1 (mnsD m l)=n:=by rw[N,wT aa];rfl
  refine gd ?_ ?_<;>intro v1
  ·refine gq ?_;refine yn ?_ ?_;all_goals(first|(unfold cntV;rw[j7 Q,K,j7 aa];done)|(unfold cntE;rw[j7 Q,K,j7 aa];done))
  refine gq ?_;refine yn ?_ ?_;all_goals(first|(unfold cntV;rw[j7 Q,K,j8 aa];done)|(unfold cntE;rw[j7 Q,K,j8 aa];done))
end
section
variable{L:List Int}{k:Nat}{l:List Sg}{p:Sg}{x:Int}
def zmL(l:List Sg)(i:Int):Int:=match l[(i+1).toNat]? with|some s=>s.Value|none=>9
def zbQ(m:Mn)(l:List Sg)(i:Int)(p:Sg):Int:=
 if(mngs m p).length=2 then(if zmL l i<=p.Value then m.aV p.Value else if m.pV p.Value=3 then p.Value else 0)else(mngs m p).headD 0
def zdK(m:Mn)(l:List Sg)(i:Int):Int:=match zhw l i with|some p=>zbQ m l i p|none=>0
def zae(m:Mn)(l:List Sg):List Int:=(zh l l.length).map (zdK m l)
def zqh{m:Mn}(h:L[k]? =some x)(Q:l[(x-1).toNat]? =some p):(L.take k).map (zdK m l)++[zbQ m l x p]=(L.take (k+1)).map (zdK m l):=by
 have e:zdK m l x=zbQ m l x p:=by unfold zdK zhw;rw[Q]
 rw[jK,h];simp[e]
def zi6{m:Mn}{l:List Sg}(h:zas m l 0 l=0):∀k,k<=l.length->∀x,x∈zh l k->∀p,l[(x-1).toNat]? =some p->(mngs m p).length≠0
 |0,_,x,hx=>by simp[zh]at hx
 |k+1,hk,x,hx=>by
  simp only[zh,w9]at hx;rcases hx with hx|hx
  ·exact zi6 h k aa x hx
  ·have hs:l[k]? =some l[k]:=lgg aa;simp only[hs]at hx;split at hx
   ·rename_i Q;have h0:=(zbi h (k+1) hk).2 k _ aa hs;simp at hx;intro p N;cases k with
    |zero=>unfold sgF at h0;rw[j8 aa,j7 Q]at h0;simp at h0
    |succ j=>
     rw[show(x-1).toNat=j by omega]at N;unfold sgF at h0;rw[j8 aa,j7 Q]at h0;simp only[N]at h0;intro K;rw[j7 (.inr K)]at h0;simp at h0
   ·simp at hx
def zsh{m:Mn}(h:(zh l l.length)[k]? =some x)(Q:l[(x-1).toNat]? =some p):(mnsD m l)[k]? =some (mngs m p):=by
 have e:mnAt m l x=mngs m p:=by unfold mnAt zhw;rw[Q]
 rw[mnsD,j9,h];simp[e]
def zlP(l:List Sg)(hl:l.length<=1000)(i:Int)(h0:0<=i)(h1:i<=1000):Fn prog 190 [iv i,.ept (λ_:Unit=>[sgsA l]) () 0] (iv (zmL l i)):=by
 refine bB func190 ntmps190 (λg w d=>?_);refine gd ?_ ?_<;>intro Q
 ·obtain⟨s,hs⟩:∃s,l[(i+1).toNat]? =some s:=⟨_,lgg aa⟩;refine gq ?_;all_goals(congr 1;unfold zmL;rw[hs])
 have hs:l[(i+1).toNat]? =none:=wO aa;refine gq ?_;all_goals(congr 1;unfold zmL;rw[hs])
def znV(m:Mn)(l:List Sg)(hl:l.length<=1000):Fn prog 152 [mnA m,sgsA l] (.tup [yj (if ckD m l=0 then zae m l else[]),iv (ckD m l)]):=by
 refine bB func152 ntmps152 (λg w d=>?_);refine gq ?_;refine zax ?_;refine gc (C_dot_Meanings m l hl) ?_;refine gd ?_ ?_<;>intro Q
 ·apply yc;refine yo ?_;refine bC ?_;refine yi (yh (ts:=[(4,yj []),(5,iv (ckD m l))]) (hs:=[])) ?_;refine yn ?_ ?_;all_goals(first|(simp[Q];done)|(rw[j7 Q,←H];rfl)|(rw[j8 Q])|exact zE Q|rfl)
 apply yf;apply ye;refine yl (bG (k:=3) rfl rfl) ?_;have x0:(if ckD m l=0 then mnsD m l else[])=mnsD m l:=j7 Q;rw[x0]
 have xT:zas m l 0 l=0:=by unfold ckD at Q;split at Q
                           ·exact Q
                           ·exact absurd Q ai
 apply yd;iterate 2 refine ya ?_
 apply yp;refine yk ?_;iterate 2 apply ye
 refine yl (yz intE 3 1 9 9 rfl rfl) ?_;refine gq ?_;refine zf (zi5 l hl) ?_;refine yC ?_;apply kX;have v1:=zcm l l.length;refine y9 [2,3,5,6,8,9,29,30] (λk zz=>(31,iv (k:Int))::zz) [2] (λk zz=>(9,.row intE (((zh l l.length).take k).map (zdK m l)) 3 1)::zz) ((zh l l.length).length) (λk hk=>?_);refine gd ?_ ?_<;>intro v0
 ·have w2:=@getX _ (zh l l.length) k aa;obtain⟨x,hx,k9⟩:=w2;obtain⟨j,s,p,k8,v9,v8⟩:=zdn xT l.length (jG _) x (j6 hx);have k7:j+1<l.length:=(j5.1 v9).1;have hp:l[(x-1).toNat]? =some p:=by rw[show(x-1).toNat=j by omega];exact v8
  have v5:=zi6 xT l.length (jG _) x (j6 hx) p hp;have k6:(mnsD m l)[(k:Int).toNat]? =some (mngs m p):=by simpa using zsh (m:=m) hx hp
  obtain⟨c0,x2⟩:∃c0,(mngs m p)[(0:Int).toNat]? =some c0:=⟨_,lgg aj⟩
  have v4:(mngs m p).headD 0=c0:=by
   cases hq:mngs m p with
   |nil=>simp[hq]at v5
   |cons a b=>simp[hq]at x2;simp[x2]
  have N:=zqh (m:=m) hx hp;have k5:(((zh l l.length).take k).map (zdK m l)).length<=1000:=aj
  refine gd ?_ ?_<;>intro k4
  ·refine gc (zgh m p.Value) ?_;refine gc (zgi m p.Value) ?_;refine gc (zlP l hl x aa aa) ?_;refine gd ?_ ?_<;>intro v3
   ·have K:zbQ m l x p=m.aV p.Value:=by unfold zbQ;rw[j7 aa,j7 v3]
    rw[K]at N;refine gq ?_;refine yH intE [_] ?_;refine gq ?_;refine yr (k+1)
   ·refine gd ?_ ?_<;>intro x1
    ·have G:m.pV p.Value=3:=x1;have K:zbQ m l x p=p.Value:=by unfold zbQ;rw[j7 aa,j8 aa,j7 G]
     rw[K]at N;refine gq ?_;refine yH intE [_] ?_;refine gq ?_;refine yr (k+1)
    ·have G:¬m.pV p.Value=3:=x1;have K:zbQ m l x p=0:=by unfold zbQ;rw[j7 aa,j8 aa,j8 G]
     rw[K]at N;refine gq ?_;refine yH intE [_] ?_;refine gq ?_;refine yr (k+1)
  ·have K:zbQ m l x p=c0:=by unfold zbQ;rw[j8 aa,v4]
   rw[K]at N;refine gq ?_;refine yH intE [_] ?_;refine gq ?_;refine yr (k+1)
 ·have v2:k=(zh l l.length).length:=aa
  subst v2;have H:((zh l l.length).take (zh l l.length).length).map (zdK m l)=zae m l:=by rw[jR];rfl
  apply bH;apply yc;refine yo ?_;refine bC ?_;refine yi (kY (k:=9) rfl) ?_;refine yn ?_ ?_;all_goals(first|(simp[Q];done)|(rw[j7 Q,←H];rfl)|(rw[j8 Q])|exact zE Q|rfl)
end
section
variable{L:List (List Int)}{j k:Nat}{l:List (List Int)}{n:Int}{x:List Int}{zs:List AV}
def zzS:∀(I:Im)(j:Nat)c,(intE 0)[j]? =some c->RV I noNames c (.int .i64 0):=λI j c h=>by
 cases j with
 |zero=>simp[intE]at h;subst h;exact .int _ _
 |succ j=>simp[intE]at h
def zi7(l:List (List Int)):List (List AV):=(List.range l.length).map λ(j:Nat)=>[iv ((l.length:Int)-1-(j:Int)),yj (l.getD (l.length-1-j) [])]
def zkt(h:k<l.length):(zi7 l)[k]? =some [iv ((l.length:Int)-1-k),yj (l.getD (l.length-1-k) [])]:=by
 simp[zi7,h]
def zhc(h:(zi7 l)[j]? =some zs):j<l.length/\zs=[iv ((l.length:Int)-1-j),yj (l.getD (l.length-1-j) [])]:=by
 have Q:j<l.length:=by have:=(j5.1 h).1;simpa[zi7]using this
 rw[zkt Q]at h;exact⟨Q,by simpa using h.symm⟩
def zku(l:List (List Int)):(zi7 l).length=l.length:=by simp[zi7]
def ofN(L:List (List Int))(n:Int):Nat->Int
 |0=>n
 |j+1=>ofN L n j/((L.getD (L.length-1-j) []).length:Int)
def ofV(L:List (List Int))(n:Int)(j:Nat):Int:=(L.getD (L.length-1-j) []).getD (ofN L n j%((L.getD (L.length-1-j) []).length:Int)).toNat 0
def zbE(L:List (List Int))(n:Int):Nat->List Int
 |0=>[]
 |j+1=>ofV L n j::zbE L n j
def zkv(L:List (List Int))(n:Int):∀j,(zbE L n j).length=j
 |0=>rfl
 |j+1=>by simp[zbE,zkv L n j]
def zpp{L:List (List Int)}{n:Int}(h0:0<=n)(h1:n<=64)(Q:∀x∈L,1<=x.length):∀j,j<=L.length->0<=ofN L n j/\ofN L n j<=64
 |0,_=>⟨h0,h1⟩
 |j+1,N=>by
  obtain⟨a,b⟩:=zpp h0 h1 Q j aa
  have hx:1<=(L.getD (L.length-1-j) []).length:=by
   rw[jB,lgg aa];exact Q _ (wK _)
  simp only[ofN];generalize(L.getD (L.length-1-j) []).length=q at hx⊢;refine⟨uL a aa,xH (x3 _ a) b⟩
def ofD(L:List (List Int))(n:Int):List Int:=zbE L n L.length
def zzT(Q:j<L.length):(List.replicate (L.length-j) 0++zbE L n j).set ((L.length:Int)-1-j).toNat (ofV L n j)=List.replicate (L.length-(j+1)) 0++zbE L n (j+1):=by
 have e:((L.length:Int)-1-j).toNat=L.length-(j+1):=aa
 rw[e,show L.length-j=(L.length-(j+1))+1 by omega,List.replicate_succ',u4,vQ _ _ ah];simp[zbE]
def ofE(m:Mn)(l:List Sg)(n:Int):Int:=if cntE m l=0 then(if n<0\/cntV m l<=n then 2 else 0)else cntE m l
def ofL(m:Mn)(l:List Sg)(n:Int):List Int:=if ofE m l n=0 then ofD (mnsD m l) n else[]
def zpq{m:Mn}{l:List Sg}(h:cntE m l=0):ckD m l=0:=by
 unfold cntE at h;split at h
 ·assumption
 ·exact h
def zmM:∀{L:List (List Int)}{n:Int},(∀x∈L,1<=x.length)->1<=n->n<=64->1<=cntF n L
 |[],n,_,h,_=>h
 |x::r,n,Q,h,N=>by
  have hx:=Q x ah
  have K:1<=n*(x.length:Int):=by
   have:(1:Int)*1<=n*(x.length:Int):=xF h aa aa aa;simpa using this
  unfold cntF;split
  ·omega
  ·exact zmM (λy H=>Q y (by simp[H])) K aa
def zpr{m:Mn}{l:List Sg}:cntV m l<=64:=by
 unfold cntV;split
 ·split<;>omega
 ·omega
def zmN{m:Mn}{l:List Sg}(h:ckD m l=0)(hx:x∈mnsD m l):1<=x.length:=by
 obtain⟨i,hi,rfl⟩:=jS.1 hx
 have Q:zas m l 0 l=0:=by unfold ckD at h;split at h
                          ·exact h
                          ·exact absurd h ai
 obtain⟨j,s,p,h1,H,K⟩:=zdn Q l.length (jG _) i hi;have N:l[(i-1).toNat]? =some p:=by rw[show(i-1).toNat=j by omega];exact K
 have:=zi6 Q l.length (jG _) i hi p N;unfold mnAt zhw;rw[N];show 1<=(mngs m p).length;omega
def zb6(l:List (List Int))(hl:l.length<=4000000000):It prog 351 [.ept (λ_:Unit=>[.sl zcZ l]) () 0] (zi7 l):=by
 refine zc1 func351 ntmps351 (λg w d ds Y lY K=>?_);apply yc;refine ya ?_;refine yo ?_;apply kX;refine y9 [0,1] (λk zz=>(3,iv ((l.length:Int)-1-k))::zz) [] (λk zz=>(1000000,.yld k true)::zz) l.length (λk hk=>?_);refine gd ?_ ?_<;>intro H
 ·have Q:k<l.length:=aa
  have G:l[((l.length:Int)-1-k).toNat]? =some (l.getD (l.length-1-k) []):=by
   rw[show((l.length:Int)-1-k).toNat=l.length-1-k by omega,jB,lgg aa];rfl
  apply yf;apply ye;apply kX;apply yc;iterate 6 refine ya ?_
  refine bX K rfl rfl rfl (bK _) rfl rfl (zkt Q) rfl (λb=>?_);refine gd ?_ ?_<;>intro N
  ·refine bC ?_;refine⟨.inr rfl,_,b,rfl,λhb=>by simp_all⟩
  subst N;apply yf;apply yd;refine yo ?_;refine⟨k+1,yh,?_,?_⟩
  ·omega
  ·omega
 ·apply bH;refine⟨.inl rfl,k,true,rfl,λ_=>by rw[zku];omega⟩
def zcC(l:List (List Int)):Fn prog 332 [zmd l] (.fn 351 [.ept (λ_:Unit=>[.sl zcZ l]) () 0]):=by
 refine bB func332 ntmps332 (λg w d=>?_);apply yc;refine zax ?_;refine ya ?_;apply yp;refine yC ?_;refine bC ?_;refine yi (bG (k:=1) rfl rfl) ?_;refine gq ?_;all_goals exact zR
def zuL(L:List (List Int))(n:Int):List.replicate L.length 0=List.replicate (L.length-0) 0++zbE L n 0:=by simp[zbE]
def zuM(L:List (List Int))(n:Int):List.replicate (L.length-L.length) 0++zbE L n L.length=ofD L n:=by simp[ofD]
attribute [local irreducible] mnsD zbE ofV ofL ofE ofD cntE cntV ckD
def zsi(m:Mn)(z:List Sg)(hl:z.length<=1000)(n:Int):Fn prog 272 [mnA m,sgsA z,iv n] (.tup [yj (ofL m z n),iv (ofE m z n)]):=by
 refine bB func272 ntmps272 (λg w d=>?_);refine gq ?_;refine zax ?_;refine gc (zhx m z hl) ?_;refine gd ?_ ?_<;>intro N
 ·have hE:ofE m z n=cntE m z:=by unfold ofE;rw[j8 N]
  have H:ofL m z n=[]:=by unfold ofL;rw[j8 (by rw[hE];exact N)]
  apply yc;refine yo ?_;refine bC ?_;refine yi (yh (ts:=[(6,yj []),(7,iv (cntE m z))]) (hs:=[])) ?_;refine yn ?_ ?_;all_goals(first|(simp[*];done)|exact zE hE|(rw[H,←Q];simp only[K];rfl))
 have G:=zpq N;have hM:=C_dot_Meanings m z hl;rw[j7 G]at hM;have v5:=zgx m z;have xT:∀x∈mnsD m z,1<=x.length:=λx hx=>zmN G hx
 have v4:=zpr (m:=m) (l:=z);apply yf;apply ye;apply yc;iterate 2 refine ya ?_
 refine bI 2 ?_;refine yw ?_;iterate 3 refine bE ?_
 refine gf ?_ ?_<;>intro v3
 ·have hE:ofE m z n=2:=by unfold ofE;rw[j7 N,j7 aa]
  have H:ofL m z n=[]:=by unfold ofL;rw[j8 aa]
  apply yc;refine yC ?_;refine bC ?_;refine yi (yh (ts:=[(6,yj []),(7,iv 2)]) (hs:=[])) ?_;refine yn ?_ ?_;all_goals(first|(simp[*];done)|exact zE hE|(rw[H,←Q];simp only[K];rfl))
 have hE:ofE m z n=0:=by unfold ofE;rw[j7 N,j8 aa]
 have H:ofL m z n=ofD (mnsD m z) n:=by unfold ofL;rw[j7 hE]
 have x1:0<=n:=aa
 have x0:n<=64:=aa
 refine gc hM ?_;refine bP (zez (k:=39) (enc:=intE) 0 sl22 ti3 rfl ac rfl rfl rfl rfl aa (λ_=>rfl) zzS) rfl rfl ?_;refine gq ?_;refine zf (zcC _) ?_;apply bD;apply kX;have w2:=zuL (mnsD m z) n;have Q:=zuM (mnsD m z) n;have K:=zku (mnsD m z);refine bV (sl:=[5,12]) (λj=>([.ptr 5 0 0 0,.ptr 12 0 0 0],[(5,.box [iv (ofN (mnsD m z) n j)] 3),(12,.box [.own 39] 22),(39,.row intE (List.replicate ((mnsD m z).length-j) 0++zbE (mnsD m z) n j) 3 1)])) (λj=>True) 900001 900002 rfl rfl ac (λj zs hj=>by obtain⟨_,rfl⟩:=zhc hj;rfl) (zb6 (mnsD m z) aa) trivial rfl rfl ac (jU _) ah (λj zs hj=>by obtain⟨_,rfl⟩:=zhc hj;rfl) (λ_=>rfl) rfl rfl (λl o us=>yh) (trivial) (λj zs hj hJ l ready busy rb vs g w hb v2=>?_) (λhJ=>?_)
 ·obtain⟨v9,rfl⟩:=zhc hj;obtain⟨v1,v0⟩:=zpp x1 x0 xT j aa
  have x2:(mnsD m z).getD ((mnsD m z).length-1-j) []∈mnsD m z:=by
   rw[jB,lgg aa];exact wK _
  have k9:=xT _ x2;have k8:=zhb x2;have k7:0<=ofN (mnsD m z) n j%(((mnsD m z).getD ((mnsD m z).length-1-j) []).length:Int):=vH _ aa;have k6:ofN (mnsD m z) n j%(((mnsD m z).getD ((mnsD m z).length-1-j) []).length:Int)<(((mnsD m z).getD ((mnsD m z).length-1-j) []).length:Int):=uN _ aa
  have hv:((mnsD m z).getD ((mnsD m z).length-1-j) [])[(ofN (mnsD m z) n j%(((mnsD m z).getD ((mnsD m z).length-1-j) []).length:Int)).toNat]? =some (ofV (mnsD m z) n j):=by
   unfold ofV;rw[jB (l:=(mnsD m z).getD ((mnsD m z).length-1-j) []),lgg aa];rfl
  have k5:(List.replicate ((mnsD m z).length-j) 0++zbE (mnsD m z) n j).length=(mnsD m z).length:=by simp[zkv];omega
  have v8:=zzT (n:=n) v9;apply yc;refine yk ?_;apply yd;refine yk ?_;refine⟨rfl,rfl,?_⟩;refine gq ?_;refine y4 [44,45,46,47,48,49,50,51,52] [0,0,0,0,0,16,56,124,252,511,1023] mo ?_;iterate 9 refine yb ?_
  refine yD ?_;refine ya ?_;refine bF ?_;apply bD;apply yd;iterate 4 refine ya ?_
  refine bF ?_;apply bD;refine⟨[.ptr 5 0 0 0,.ptr 12 0 0 0],[(5,.box [iv (ofN (mnsD m z) n (j+1))] 3),(12,.box [.own 39] 22),(39,.row intE (List.replicate ((mnsD m z).length-(j+1)) 0++zbE (mnsD m z) n (j+1)) 3 1)],yh,rfl,trivial⟩
 apply yc;refine yo ?_;refine bC ?_;refine yi (kY (k:=39) rfl) ?_;refine yn ?_ ?_;all_goals(first|(simp[*];done)|exact zE hE|(rw[H,←Q];simp only[K];rfl))
end
section
def zsj(x:Int)(l:List Int):decide (0<=fidx (λu=>decide (x=u)) l)=decide (x∈l):=by
 by_cases h:x∈l
 ·have:l.findIdx (λu=>decide (x=u))<l.length:=List.findIdx_lt_length_of_exists ⟨x,h,ah⟩;simp only[fidx,j7 this,h];simp
 ·have N:l.findIdx (λu=>decide (x=u))=l.length:=vL.2 λu Q=>wB λe=>h (e▸Q)
  have:¬l.findIdx (λu=>decide (x=u))<l.length:=aa
  simp only[fidx,j8 this,h];simp
def zdL(l:List Int)(x:Int)(hl:l.length<=4000000000):Fn prog 228 [yj l,iv x] (iv (fidx (λu=>decide (x=u)) l)):=by
 refine bB func228 ntmps228 (λg w d=>?_);apply yc;refine yk ?_;apply ye;apply yc;refine yo ?_;apply kX;refine zag (ι:=Nat) [0,1,7] (λ(k:Nat)zz=>(8,iv (k:Int))::zz) [] (λ(k:Nat)zz=>zz) (λ(k:Nat)=>k<=l.length/\∀i u,i<k->l[i]? =some u->decide (x=u)=false) (λ(k:Nat)=>l.length-k) 0 (λk hk=>?_) (hJ:=by exact⟨aa,λi u h=>absurd h (vU i)⟩);obtain⟨xT,Q⟩:=hk;refine gd ?_ ?_<;>intro x2
 ·have H:=@getX _ l k aa;obtain⟨v,G,x1⟩:=H;refine gd ?_ ?_<;>intro N
  ·refine gq ?_;all_goals(congr 1;exact(zmK G (ao N) Q).symm)
  refine gq ?_
  refine yr (k+1) (hJ:=by
   refine⟨aa,λi u hi K=>?_⟩;rcases uJ.1 hi with h|h
   ·exact Q i u h K
   ·subst h;rw[G]at K;injection K with K;subst K;simpa using N)
 ·refine gq ?_;all_goals(congr 1;exact(zkr (λi u hi=>Q i u aa)).symm)
def yQ(l:List Int)(x:Int)(hl:l.length<=4000000000):Fn prog 193 [yj l,iv x] (.bool (decide (x∈l))):=by
 refine bB func193 ntmps193 (λg w d=>?_);refine gc (zdL l x hl) ?_;all_goals(congr 1;exact zsj x l)
set_option maxRecDepth 9999 in
def zj1(v:Int)(a:List Int)(b:List Bool)(H:1<=a.length)(G:1<=b.length)(Q:a.length<=1000)(N:b.length<=1000):FnO prog 194 [iv v,.ptr 2000000 0 0 0,.ptr 2000001 0 0 0] [(2000000,.box [.own 2000002] 22),(2000001,.box [.own 2000003] 207),(2000002,.row intE a 3 1),(2000003,.row zak b 4 1)] [2000000,2000001,2000002,2000003] (.tup []) [(2000000,.box [.own 2000002] 22),(2000001,.box [.own 2000003] 207),(2000002,.row intE (a.set ((a.length:Int)-1).toNat v) 3 1),(2000003,.row zak (b.set ((b.length:Int)-1).toNat (decide (v=0))) 4 1)]:=by
 refine bR [.ptr 2000000 0 0 0,.ptr 2000001 0 0 0,.own 2000002,.own 2000003] func194 ntmps194 (λg w d vs=>?_);refine zY [⟨0,4,.own 2000002,[]⟩,⟨1,5,.own 2000002,[]⟩,⟨2,6,iv a.length,[1]⟩,⟨3,7,iv ((a.length:Int)-1),[1,2]⟩,⟨4,8,.own 2000003,[]⟩,⟨5,9,.own 2000003,[]⟩,⟨6,10,iv b.length,[5]⟩,⟨7,11,iv ((b.length:Int)-1),[5,6]⟩,⟨8,12,iv v,[]⟩,⟨9,13,iv v,[]⟩,⟨10,14,.bool (decide (v=0)),[9]⟩,⟨11,15,.ptr 2000002 1 ((a.length:Int)-1).toNat 0,[8,2,1,3,0]⟩,⟨13,16,.ptr 2000003 1 ((b.length:Int)-1).toNat 0,[12,11,10,9,8,6,5,3,2,1,0,7,4]⟩] [(12,[3,2,1,0,8,11]),(14,[11,9,8,7,6,5,4,3,2,1,0,12,10,13])] (λj=>⟨[(0,iv v),(1,.ptr 2000000 0 0 0),(2,.ptr 2000001 0 0 0)],match j with|0=>[(1000001,.hold vs [.ptr 2000000 0 0 0,.ptr 2000001 0 0 0,.own 2000002,.own 2000003]),(2000000,.box [.own 2000002] 22),(2000001,.box [.own 2000003] 207),(2000002,.row intE (a) 3 1),(2000003,.row zak (b) 4 1)]|1=>[(1000001,.hold vs [.ptr 2000000 0 0 0,.ptr 2000001 0 0 0,.own 2000002,.own 2000003]),(2000000,.box [.own 2000002] 22),(2000001,.box [.own 2000003] 207),(2000002,.row intE (a.set ((a.length:Int)-1).toNat v) 3 1),(2000003,.row zak (b) 4 1)]|_=>[(1000001,.hold vs [.ptr 2000000 0 0 0,.ptr 2000001 0 0 0,.own 2000002,.own 2000003]),(2000000,.box [.own 2000002] 22),(2000001,.box [.own 2000003] 207),(2000002,.row intE (a.set ((a.length:Int)-1).toNat v) 3 1),(2000003,.row zak (b.set ((b.length:Int)-1).toNat (decide (v=0))) 4 1)]⟩) mo (zP (yh)) (λj K=>?_) ⟨λβ=>Co2 rfl (zaU v rfl rfl (λ_=>rfl) ac aa rfl rfl rfl rfl rfl ty3),λβ=>Co2 rfl (zaU (decide (v=0)) rfl rfl (λ_=>rfl) ac aa rfl rfl rfl rfl rfl ty4),trivial⟩ ?_
 ·rcases j with _|_|_|j
  ·first
    |refine⟨.inr ⟨_,rfl,rfl,rfl,rfl,bA (zan rfl rfl rfl ty22)⟩,?_⟩
    |refine⟨.inr ⟨_,rfl,rfl,rfl,rfl,bA (zaa rfl rfl rfl ty22)⟩,?_⟩
    |refine⟨.inr ⟨_,rfl,rfl,rfl,rfl,bA (zao rfl rfl ai rfl rfl ty22)⟩,?_⟩
   first
    |refine⟨.inr ⟨_,rfl,rfl,rfl,rfl,bA (zan rfl rfl rfl ty22)⟩,?_⟩
    |refine⟨.inr ⟨_,rfl,rfl,rfl,rfl,bA (zaa rfl rfl rfl ty22)⟩,?_⟩
    |refine⟨.inr ⟨_,rfl,rfl,rfl,rfl,bA (zao rfl rfl ai rfl rfl ty22)⟩,?_⟩
   first
    |refine⟨.inr ⟨_,rfl,rfl,rfl,rfl,bA (zgC rfl sl22)⟩,?_⟩
    |refine⟨.inr ⟨_,rfl,rfl,rfl,rfl,bA (zdq rfl rfl sl22)⟩,?_⟩
    |refine⟨.inr ⟨_,rfl,rfl,rfl,rfl,bA (zdN rfl sl22)⟩,?_⟩
   refine⟨.inr ⟨_,rfl,rfl,rfl,rfl,bA (zkx rfl rfl (wZ _ aa))⟩,?_⟩
   first
    |refine⟨.inr ⟨_,rfl,rfl,rfl,rfl,bA (zan rfl rfl rfl zcL)⟩,?_⟩
    |refine⟨.inr ⟨_,rfl,rfl,rfl,rfl,bA (zaa rfl rfl rfl zcL)⟩,?_⟩
    |refine⟨.inr ⟨_,rfl,rfl,rfl,rfl,bA (zao rfl rfl ai rfl rfl zcL)⟩,?_⟩
   first
    |refine⟨.inr ⟨_,rfl,rfl,rfl,rfl,bA (zan rfl rfl rfl zcL)⟩,?_⟩
    |refine⟨.inr ⟨_,rfl,rfl,rfl,rfl,bA (zaa rfl rfl rfl zcL)⟩,?_⟩
    |refine⟨.inr ⟨_,rfl,rfl,rfl,rfl,bA (zao rfl rfl ai rfl rfl zcL)⟩,?_⟩
   first
    |refine⟨.inr ⟨_,rfl,rfl,rfl,rfl,bA (zgC rfl zdZ)⟩,?_⟩
    |refine⟨.inr ⟨_,rfl,rfl,rfl,rfl,bA (zdq rfl rfl zdZ)⟩,?_⟩
    |refine⟨.inr ⟨_,rfl,rfl,rfl,rfl,bA (zdN rfl zdZ)⟩,?_⟩
   refine⟨.inr ⟨_,rfl,rfl,rfl,rfl,bA (zkx rfl rfl (wZ _ aa))⟩,?_⟩;(iterate 2 refine⟨.inr ⟨_,rfl,rfl,rfl,rfl,bA (zn5 rfl)⟩,?_⟩);refine⟨.inr ⟨_,rfl,rfl,rfl,rfl,bA (zsP rfl rfl)⟩,?_⟩
   first
    |refine⟨.inr ⟨_,rfl,rfl,rfl,rfl,bA (zbS rfl rfl sl22 ty3 (λ_=>rfl) aa ai)⟩,?_⟩
    |refine⟨.inr ⟨_,rfl,rfl,rfl,rfl,bA (zeu rfl rfl rfl sl22 ty3 aa aa)⟩,?_⟩
   exact yE
  ·iterate 4 refine⟨.inl rfl,?_⟩
   first
    |refine⟨.inr ⟨_,rfl,rfl,rfl,rfl,bA (zan rfl rfl rfl zcL)⟩,?_⟩
    |refine⟨.inr ⟨_,rfl,rfl,rfl,rfl,bA (zaa rfl rfl rfl zcL)⟩,?_⟩
    |refine⟨.inr ⟨_,rfl,rfl,rfl,rfl,bA (zao rfl rfl ai rfl rfl zcL)⟩,?_⟩
   first
    |refine⟨.inr ⟨_,rfl,rfl,rfl,rfl,bA (zan rfl rfl rfl zcL)⟩,?_⟩
    |refine⟨.inr ⟨_,rfl,rfl,rfl,rfl,bA (zaa rfl rfl rfl zcL)⟩,?_⟩
    |refine⟨.inr ⟨_,rfl,rfl,rfl,rfl,bA (zao rfl rfl ai rfl rfl zcL)⟩,?_⟩
   first
    |refine⟨.inr ⟨_,rfl,rfl,rfl,rfl,bA (zgC rfl zdZ)⟩,?_⟩
    |refine⟨.inr ⟨_,rfl,rfl,rfl,rfl,bA (zdq rfl rfl zdZ)⟩,?_⟩
    |refine⟨.inr ⟨_,rfl,rfl,rfl,rfl,bA (zdN rfl zdZ)⟩,?_⟩
   refine⟨.inr ⟨_,rfl,rfl,rfl,rfl,bA (zkx rfl rfl (wZ _ aa))⟩,?_⟩;refine⟨.inl rfl,?_⟩;refine⟨.inr ⟨_,rfl,rfl,rfl,rfl,bA (zn5 rfl)⟩,?_⟩;refine⟨.inr ⟨_,rfl,rfl,rfl,rfl,bA (zsP rfl rfl)⟩,?_⟩;refine⟨.inl rfl,?_⟩
   first
    |refine⟨.inr ⟨_,rfl,rfl,rfl,rfl,bA (zbS rfl rfl zdZ ty4 (λ_=>rfl) aa ai)⟩,?_⟩
    |refine⟨.inr ⟨_,rfl,rfl,rfl,rfl,bA (zeu rfl rfl rfl zdZ ty4 aa aa)⟩,?_⟩
   exact True.intro
  ·exact yE
  ·exact absurd (show j+3<=2 from K) aa
 refine zm4.mk (ts:=[]) (.inl rfl) (yh) (.many ac .nil)
end
section
variable{L:List (List Int)}{ch:List Int}{k:Nat}{l:List Sg}{s:Sg}
def mkK(ch:List Int)(l:List Sg):Nat->List Int×List Bool×Nat
 |0=>([],[],0)
 |k+1=>match l[k]? with
  |some s=>if s.Kind=3 then((mkK ch l k).1.set (((mkK ch l k).1.length:Int)-1).toNat (ch.getD (mkK ch l k).2.2 0),(mkK ch l k).2.1.set (((mkK ch l k).2.1.length:Int)-1).toNat (decide (ch.getD (mkK ch l k).2.2 0=0)),(mkK ch l k).2.2+1)else((mkK ch l k).1++[0],(mkK ch l k).2.1++[false],(mkK ch l k).2.2)
  |none=>mkK ch l k
def zlQ(h:l[k]? =some s)(Q:s.Kind=3):mkK ch l (k+1)=((mkK ch l k).1.set (((mkK ch l k).1.length:Int)-1).toNat (ch.getD (mkK ch l k).2.2 0),(mkK ch l k).2.1.set (((mkK ch l k).2.1.length:Int)-1).toNat (decide (ch.getD (mkK ch l k).2.2 0=0)),(mkK ch l k).2.2+1):=by
 simp only[mkK,h,j7 Q]
def zi8(h:l[k]? =some s)(Q:¬s.Kind=3):mkK ch l (k+1)=((mkK ch l k).1++[0],(mkK ch l k).2.1++[false],(mkK ch l k).2.2):=by
 simp only[mkK,h,j8 Q]
theorem zlR(ch:List Int)(l:List Sg):∀k,(mkK ch l k).1.length=(mkK ch l k).2.1.length/\(mkK ch l k).1.length<=k/\(mkK ch l k).2.2=(zh l k).length
 |0=>⟨rfl,jG _,rfl⟩
 |k+1=>by
  obtain⟨h1,K,N⟩:=zlR ch l k;cases hs:l[k]? with
  |none=>simp only[mkK,zh,hs,wQ];exact⟨h1,aa,N⟩
  |some s=>
   by_cases Q:s.Kind=3
   ·rw[zlQ hs Q];simp[zh,hs,Q];omega
   ·rw[zi8 hs Q];simp[zh,hs,Q];omega
def zi9(l:List Sg):∀(n k:Nat),k<=n->(zh l k).length<=(zh l n).length
 |0,k,h=>by have:k=0:=aa
            subst this;exact jG _
 |n+1,k,h=>by
  rcases wH n k with h1|h1
  ·have:k=n+1:=aa
   subst this;exact jG _
  ·have:=zi9 l n k h1;simp only[zh,jJ];omega
def zps{m:Mn}{ch:List Int}{l:List Sg}(h:zas m l 0 l=0):∀k,1<=k->k<=l.length->1<=(mkK ch l k).1.length
 |0,h1,_=>by omega
 |k+1,_,hk=>by
  obtain⟨s,hs⟩:∃s,l[k]? =some s:=⟨_,lgg aa⟩;by_cases Q:s.Kind=3
  ·rw[zlQ hs Q];simp only[xW];rcases x7 k with h0|h0
   ·subst h0;have:=(zbi h 1 hk).2 0 s aa hs;unfold sgF at this;rw[j8 aa,j7 Q]at this;simp at this
   ·exact zps h k h0 aa
  ·rw[zi8 hs Q];simp
def zuN{m:Mn}(h:zas m l 0 l=0)(hs:l[k]? =some s)(Q:s.Kind=3):1<=k:=by
 rcases x7 k with h0|h0
 ·subst h0;have:=(zbi h 1 (j5.1 hs).1).2 0 s aa hs;unfold sgF at this;rw[j8 aa,j7 Q]at this;simp at this
 ·exact h0
def zsk{m:Mn}(h:ckD m l=0):zas m l 0 l=0:=by
 unfold ckD at h;split at h
 ·exact h
 ·exact absurd h ai
def chOk(ch:List Int)(L:List (List Int)):Prop:=((L.zip ch).all λp=>decide (p.2∈p.1))=true
instance(ch:List Int)(L:List (List Int)):Decidable (chOk ch L):=inferInstanceAs(Decidable (_=true))
theorem zja:chOk ch L↔∀(i:Nat)x v,L[i]? =some x->ch[i]? =some v->v∈x:=by
 unfold chOk;rw[jF];constructor
 ·intro h i x v hx Q;have:=h (x,v) (jL.2 ⟨i,List.getElem?_zip_eq_some.2 ⟨hx,Q⟩⟩);simpa using this
 ·rintro h⟨x,v⟩N
  obtain⟨i,hi⟩:=jL.1 N;obtain⟨h1,K⟩:=List.getElem?_zip_eq_some.1 hi;simpa using h i x v h1 K
def mkE(m:Mn)(l:List Sg)(ch:List Int):Int:=if ckD m l=0 then(if(mnsD m l).length=ch.length/\chOk ch (mnsD m l)then 0 else 2)else ckD m l
def mkC(m:Mn)(l:List Sg)(ch:List Int):List Int:=if mkE m l ch=0 then(mkK ch l l.length).1 else[]
def mkA(m:Mn)(l:List Sg)(ch:List Int):List Bool:=if mkE m l ch=0 then(mkK ch l l.length).2.1 else[]
def ds9:List (List Bool):=[0,1,2,8,16,3,9,17,10,18,24,7,11,19,25,26,15,23,27,31,63,127,255].map λn=>(List.range 8).map λi=>n.testBit i
def st9(ch:List Int)(l:List Sg)(k:Nat)(D:List Bool):St:=
 let b:=λi=>D.getD i false
 ⟨[(2,yj ch),(13,.ptr 13 0 0 0),(14,.ptr 14 0 0 0),(15,.fn 194 [.ptr 13 0 0 0,.ptr 14 0 0 0]),(16,iv ((mkK ch l k).2.2:Int)),(49,sgsA l),(50,iv l.length),(51,iv (k:Int))]++cond (b 0&&!b 2) [(66,.own 101)] []++cond (b 1&&!b 2) [(67,.own 67)] []++cond (b 2&&!b 6) [(68,.own 101)] []++cond (b 3&&!b 5) [(69,.own 102)] []++cond (b 4&&!b 5) [(70,.own 70)] []++cond (b 5&&!b 7) [(71,.own 102)] [],
  cond (b 1&&!b 2) [(67,.row intE [0] 3 1)] []++cond (b 4&&!b 5) [(70,.row zak [false] 4 1)] []++[(13,.box [cond (b 2&&!b 6) .any (.own 101)] 22),(14,.box [cond (b 5&&!b 7) .any (.own 102)] 207),(101,.row intE (cond (b 2) ((mkK ch l k).1++[0]) (mkK ch l k).1) 3 1),(102,.row zak (cond (b 5) ((mkK ch l k).2.1++[false]) (mkK ch l k).2.1) 4 1)]⟩
set_option maxRecDepth 100000 in
def zmO(m:Mn)(l:List Sg)(hl:l.length<=1000)(ch:List Int):Fn prog 154 [mnA m,sgsA l,yj ch] (.tup [yj (mkC m l ch),zhm (mkA m l ch),iv (mkE m l ch)]):=by
 obtain⟨L0,hX,hM⟩:∃L0,(ckD m l=0->L0=mnsD m l)/\Fn prog 189 [mnA m,sgsA l] (.tup [zmd L0,iv (ckD m l)]):=⟨_,λh=>j7 h,C_dot_Meanings m l hl⟩;refine bB func154 ntmps154 (λg w d=>?_);refine gc hM ?_;refine gd ?_ ?_<;>intro Q
 ·have hE:mkE m l ch=ckD m l:=by unfold mkE;rw[j8 Q]
  have H:mkC m l ch=[]:=by unfold mkC;rw[j8 (by rw[hE];exact Q)]
  have G:mkA m l ch=[]:=by unfold mkA;rw[j8 (by rw[hE];exact Q)]
  apply yc;refine ya ?_;refine yo ?_;refine bC ?_;refine yi (yh (ts:=[(6,yj []),(7,zhm []),(8,iv (ckD m l))]) (hs:=[])) ?_;refine bJ (.many ac (.cons (.tmp rfl (kZ ?_)) (.cons (.tmp rfl (kZ ?_)) (.cons (.tmp rfl (kZ ?_)) .nil))));all_goals(first|exact zE H|exact zE G|exact zE hE)
 have v9:=hX Q;subst v9;have k8:=zgx m l;have xT:=zsk Q;have k7:(mnsD m l).length=(zh l l.length).length:=by simp[mnsD]
 refine gd ?_ ?_<;>intro k6
 ·have hE:mkE m l ch=2:=by unfold mkE;rw[j7 Q,j8 (λh=>by have:=h.1;omega)]
  have H:mkC m l ch=[]:=by unfold mkC;rw[j8 aa]
  have G:mkA m l ch=[]:=by unfold mkA;rw[j8 aa]
  apply yc;refine yo ?_;refine bC ?_;refine yi (yh (ts:=[(6,yj []),(7,zhm []),(8,iv 2)]) (hs:=[])) ?_;refine bJ (.many ac (.cons (.tmp rfl (kZ ?_)) (.cons (.tmp rfl (kZ ?_)) (.cons (.tmp rfl (kZ ?_)) .nil))));all_goals(first|exact zE H|exact zE G|exact zE hE)
 apply yf;apply ye;apply yc;refine yo ?_;apply kX;refine zag (ι:=Nat) [1,2,9,33,34] (λ(k:Nat)zz=>(35,iv (k:Int))::zz) [] (λ(k:Nat)zz=>zz) (λ(k:Nat)=>k<=(mnsD m l).length/\∀i,i<k->∀x v,(mnsD m l)[i]? =some x->ch[i]? =some v->v∈x) (λ(k:Nat)=>(mnsD m l).length-k) 0 (λk hk=>?_) (hJ:=by exact⟨aa,λi h=>absurd h (vU i)⟩);obtain⟨k5,x2⟩:=hk;refine gd ?_ ?_<;>intro k4
 ·have N:=@getX _ (mnsD m l) k aa;obtain⟨x,hx,k3⟩:=N;have N:=@getX _ ch k aa;obtain⟨c,x0,v0⟩:=N;have k2:=zhb (j6 hx);refine gc (yQ x c aa) ?_;refine gd ?_ ?_<;>intro w2
  ·have hE:mkE m l ch=2:=by unfold mkE;rw[j7 Q,j8 (λh=>w2 (zja.1 h.2 k x c hx x0))]
   have H:mkC m l ch=[]:=by unfold mkC;rw[j8 aa]
   have G:mkA m l ch=[]:=by unfold mkA;rw[j8 aa]
   apply yc;refine yo ?_;refine bC ?_;refine yi (yh (ts:=[(6,yj []),(7,zhm []),(8,iv 2)]) (hs:=[])) ?_;refine bJ (.many ac (.cons (.tmp rfl (kZ ?_)) (.cons (.tmp rfl (kZ ?_)) (.cons (.tmp rfl (kZ ?_)) .nil))));all_goals(first|exact zE H|exact zE G|exact zE hE)
  refine gq ?_
  refine yr (k+1) (hJ:=by
   refine⟨aa,λi hi x1 v1 h1 h2=>?_⟩;rcases uJ.1 hi with h|h
   ·exact x2 i h x1 v1 h1 h2
   ·subst h;rw[hx]at h1;rw[x0]at h2;injection h1 with h1;injection h2 with h2;subst h1;subst h2;exact w2)
 ·have hok:chOk ch (mnsD m l):=zja.2 λi x v hx hv=>x2 i (by have:=(j5.1 hx).1;omega) x v hx hv
  have hE:mkE m l ch=0:=by unfold mkE;rw[j7 Q,j7 ⟨aa,hok⟩]
  have H:mkC m l ch=(mkK ch l l.length).1:=by unfold mkC;rw[j7 hE]
  have G:mkA m l ch=(mkK ch l l.length).2.1:=by unfold mkA;rw[j7 hE]
  apply bH;apply yc;refine yP ?_;apply yp;refine yP ?_;apply bD;apply ye;refine yl (zK intE 3 1 13 101 22 rfl rfl) ?_;refine yl (zK zak 4 1 14 102 207 rfl rfl) ?_;apply yd;iterate 2 refine ya ?_
  apply yp;refine yk ?_;apply ye;apply yc;refine yo ?_;apply kX;refine y9 [2,13,14,15,49,50] (λk zz=>(16,iv ((mkK ch l k).2.2:Int))::(51,iv (k:Int))::zz) [13,14] (λk zz=>(101,.row intE (mkK ch l k).1 3 1)::(102,.row zak (mkK ch l k).2.1 4 1)::zz) l.length (λk hk=>?_);refine gd ?_ ?_<;>intro j4
  ·have N:=@getX _ l k aa;obtain⟨s,hs,j3⟩:=N;obtain⟨j2,j1,j0⟩:=zlR ch l k;refine gd ?_ ?_<;>intro K
   ·have h6:=zlQ (ch:=ch) hs K;have hZ:=zi9 l l.length (k+1) aa;have hY:(zh l (k+1)).length=(zh l k).length+1:=by simp[zh,hs,K]
    have v8:=zuN xT hs K;have k9:=zps (ch:=ch) xT k v8 aa;have hW:ch[((mkK ch l k).2.2:Int).toNat]? =some (ch.getD (mkK ch l k).2.2 0):=by rw[jN,jB,lgg aa];rfl
    have v5:(mkK ch l k).1.set (((mkK ch l k).1.length:Int)-1).toNat (ch.getD (mkK ch l k).2.2 0)=(mkK ch l (k+1)).1:=by rw[h6]
    have v4:(mkK ch l k).2.1.set (((mkK ch l k).2.1.length:Int)-1).toNat (decide (ch.getD (mkK ch l k).2.2 0=0))=(mkK ch l (k+1)).2.1:=by rw[h6]
    have v3:((mkK ch l k).2.2:Int)+1=((mkK ch l (k+1)).2.2:Int):=by rw[h6];simp
    apply yc;(iterate 5 refine ya ?_);refine zbr [(2000000,13),(2000001,14),(2000002,101),(2000003,102)] (zj1 (ch.getD (mkK ch l k).2.2 0) (mkK ch l k).1 (mkK ch l k).2.1 aa aa aa aa) rfl rfl rfl (bK _) rfl rfl ⟨⟨_,_,rfl,rfl,bN _,rfl⟩,⟨_,_,rfl,rfl,bN _,rfl⟩,⟨_,_,rfl,rfl,bN _,rfl⟩,⟨_,_,rfl,rfl,bN _,rfl⟩,trivial⟩ rfl rfl rfl rfl ?_;refine gq ?_;refine yr (k+1)
   have h6:=zi8 (ch:=ch) hs K;have v5:(mkK ch l k).1++[0]=(mkK ch l (k+1)).1:=by rw[h6]
   have v4:(mkK ch l k).2.1++[false]=(mkK ch l (k+1)).2.1:=by rw[h6]
   have v3:((mkK ch l k).2.2:Int)=((mkK ch l (k+1)).2.2:Int):=by rw[h6]
   apply yf;refine zs5 (ds9.map (st9 ch l k)) ds9 [(0,0,1),(0,1,2),(0,3,3),(0,4,4),(1,1,5),(1,3,6),(1,4,7),(2,0,5),(2,3,8),(2,4,9),(3,0,6),(3,1,8),(3,4,10),(4,0,7),(4,1,9),(4,3,10),(5,2,11),(5,3,12),(5,4,13),(6,1,12),(6,4,14),(7,1,13),(7,3,14),(8,0,12),(8,4,15),(9,0,13),(9,3,15),(10,0,14),(10,1,15),(11,3,16),(11,4,17),(12,2,16),(12,4,18),(13,2,17),(13,3,18),(14,1,18),(15,0,18),(16,4,19),(17,3,19),(18,2,19),(19,5,20),(20,6,21),(21,7,22)] 22 mo rfl rfl yh ae rfl ae rfl ?_ ?_
   ·repeat'(first|exact True.intro|refine⟨⟨_,_,rfl,rfl,zaF rfl (zJ (yW (bA (zan rfl rfl rfl ty22)) rfl rfl) yh)⟩,?_⟩|refine⟨⟨_,_,rfl,rfl,zaF rfl (zJ (yW (zx (k:=67) (enc:=intE) (l:=[0]) sl22 ty3 ze3 ac rfl rfl rfl rfl ac ac (λ_=>rfl) rfl) rfl rfl) yh)⟩,?_⟩|refine⟨⟨_,_,rfl,rfl,zaF rfl (zJ (yW (bA (zan rfl rfl rfl zcL)) rfl rfl) yh)⟩,?_⟩|refine⟨⟨_,_,rfl,rfl,zaF rfl (zJ (yW (zx (k:=70) (enc:=zak) (l:=[false]) zdZ ty4 ze4 ac rfl rfl rfl rfl ac ac (λ_=>rfl) rfl) rfl rfl) yh)⟩,?_⟩|refine⟨⟨_,_,rfl,rfl,zaF rfl (zJ (zaZ (enc:=intE) (l:=(mkK ch l k).1) (l2:=[0]) rfl rfl rfl rfl sl22 ti3 ac ac (λ_=>rfl) (λ_=>rfl) aj rfl) yh)⟩,?_⟩|refine⟨⟨_,_,rfl,rfl,zaF rfl (zJ (zaZ (enc:=zak) (l:=(mkK ch l k).2.1) (l2:=[false]) rfl rfl rfl rfl zdZ ti4 ac ac (λ_=>rfl) (λ_=>rfl) aj rfl) yh)⟩,?_⟩|refine⟨⟨_,_,rfl,rfl,zaF rfl (zJ (zX rfl rfl rfl rfl ty22 (ltB rfl)) yh)⟩,?_⟩|refine⟨⟨_,_,rfl,rfl,zaF rfl (zJ (zX rfl rfl rfl rfl zcL (ltB rfl)) yh)⟩,?_⟩)
   refine gq ?_;refine yr (k+1)
  ·have v2:k=l.length:=aa
   subst v2;refine gq ?_;refine y4 [6,7,8,73,74] [0,0,1,7,15] mo ?_;(iterate 5 refine yb ?_);refine yD ?_;apply bD;refine bC ?_;refine yi ((kY (k:=101) rfl).trans (kY (k:=102) rfl)) ?_;refine bJ (.many ac (.cons (.tmp rfl (kZ ?_)) (.cons (.tmp rfl (kZ ?_)) (.cons (.tmp rfl (kZ ?_)) .nil))));all_goals(first|exact zE H|exact zE G|exact zE hE)
end
section
attribute [local irreducible] gI
end
section
variable{v w:Int}
def zCN{m:Mn}(h:4<w):m.p w=2:=by
 unfold Mn.p;rw[j8 aa,j8 aa,j8 aa,j8 aa]
def zuO{m:Mn}(h:ckMV m v=0):1<=v/\v<=8:=by
 unfold ckMV at h;split at h
 ·split at h
  ·assumption
  ·omega
 ·omega
end
section
variable{v:Int}
def zdo(m:Mn)(v:Int):Nat->Int
 |0=>1
 |n+1=>zdo m v n*m.p (v+n)
def dbl:Nat->Int
 |0=>1
 |n+1=>dbl n*2
def zbN(m:Mn)(v:Int):Tm:=⟨zdo m v (5-v).toNat,dbl (v-5).toNat⟩
def zpt{m:Mn}(h:ckM m=0)(v:Int)(h1:1<=v):m.p v=2\/m.p v=3:=by
 rcases Int.lt_or_le 4 v with Q|Q
 ·exact .inl (zCN Q)
 ·have ho:m.Ok:=by
   unfold ckM at h;split at h
   ·assumption
   ·simp at h
  exact m.ok_iff.1 ho v h1 Q
def pw3:Nat->Int
 |0=>1
 |n+1=>pw3 n*3
def zpu{m:Mn}(h:ckM m=0){v:Int}(h1:1<=v):∀n,1<=zdo m v n/\zdo m v n<=pw3 n
 |0=>⟨vD _,vD _⟩
 |n+1=>by
  obtain⟨a,b⟩:=zpu h h1 n;simp only[zdo,pw3];rcases zpt h (v+n) aa with e|e<;>rw[e]<;>omega
def zCO:∀n,n<=4->pw3 n<=81
 |0,_=>by decide
 |1,_=>by decide
 |2,_=>by decide
 |3,_=>by decide
 |4,_=>by decide
 |n+5,h=>by omega
def zCP:∀n,n<=3->1<=dbl n/\dbl n<=8
 |0,_=>by decide
 |1,_=>by decide
 |2,_=>by decide
 |3,_=>by decide
 |n+4,h=>by omega
def zzU{m:Mn}(h:ckMV m v=0):ckM m=0/\1<=v/\v<=8:=by
 have Q:=zuO h;refine⟨?_,Q⟩;unfold ckMV at h;unfold ckM;split at h
 ·rw[j7 ai]
 ·omega
def zuP(m:Mn)(v:Int)(j:Nat):zdo m v j*m.p (v+(j:Int))=zdo m v (j+1):=rfl
def zCQ(j:Nat):dbl j*2=dbl (j+1):=rfl
attribute [local irreducible] zdo dbl perfL
def zmP(m:Mn)(v:Int)(hm:ckM m=0)(h1:1<=v)(h8:v<=8):Fn prog 231 [mnA m,iv v] (tmA (zbN m v)):=by
 have K:zdo m v 0=1:=by unfold zdo;rfl
 have H:dbl 0=1:=by unfold dbl;rfl
 refine bB func231 ntmps231 (λg w d=>?_);apply yc;refine zl ?_;refine yP ?_;apply yp;refine yC ?_;apply ye;apply yc;refine yC ?_;apply kX;refine y9 [1,2,4,6] (λj zz=>(5,iv (zdo m v j))::(7,iv (v+(j:Int)))::zz) [2,4] (λ_ zz=>zz) ((5-v).toNat) (λj hk=>?_);refine gd ?_ ?_<;>intro G
 ·have xT:j<(5-v).toNat:=aa
  have hb:=zpu (m:=m) hm h1 j;have x2:=zCO j aa;have hp:=zpt hm (v+j) aa;have Q:=zuP m v j;have x1:0<=zdo m v j*m.p (v+(j:Int))/\zdo m v j*m.p (v+(j:Int))<=1000:=by rcases hp with e|e<;>rw[e]<;>omega
  refine gc (zko m (v+(j:Int)) aa aa) ?_;refine yr (j+1)
 ·have N:j=(5-v).toNat:=aa
  subst N;apply bH;apply ye;apply yc;refine yk ?_;apply kX;refine y9 [1,2,4,5] (λj zz=>(6,iv (dbl j))::(8,iv (5+(j:Int)))::zz) [2,4] (λ_ zz=>zz) ((v-5).toNat) (λj hk=>?_);refine gd ?_ ?_<;>intro x0
  ·have hb:=zCP j aa;have Q:=zCQ j;refine gq ?_;refine yr (j+1)
  ·have N:j=(v-5).toNat:=aa
   subst N;refine gq ?_;refine bJ (.one (.cellA rfl rfl rfl rfl ty35 (kZ ?_)));all_goals rfl
def zmQ(m:Mn)(v:Int):Fn prog 197 [mnA m,iv v] (.tup [tmA (if ckMV m v=0 then zbN m v else tmZ),iv (ckMV m v)]):=by
 refine bB func197 ntmps197 (λg w d=>?_);refine gc (zcz m v) ?_;refine gd ?_ ?_<;>intro Q
 ·refine gq ?_;refine yR ty35 ?_ ?_;all_goals(first|rfl|(rw[j8 Q];done)|(rw[j8 Q];rfl)|(rw[j7 Q];done)|(rw[j7 Q];rfl)|exact zE Q)
 have N:=zzU Q;refine gc (zmP m v N.1 N.2.1 N.2.2) ?_;refine yR ty35 ?_ ?_;all_goals(first|rfl|(rw[j8 Q];done)|(rw[j8 Q];rfl)|(rw[j7 Q];done)|(rw[j7 Q];rfl)|exact zE Q)
end
section
variable{v:Int}
def zgy{m:Mn}(hm:ckM m=0)(h1:1<=v)(Q:v<=8):Fn prog 197 [mnA m,iv v] (.tup [tmA (zbN m v),iv 0]):=by
 have h:=zmQ m v
 have h0:ckMV m v=0:=by
  unfold ckM at hm;unfold ckMV;split at hm
  ·rw[j7 ai,j7 ⟨h1,Q⟩]
  ·simp at hm
 rw[h0,j7 rfl]at h;exact h
attribute [local irreducible] zbN mulV
end
section
variable{v:Int}
def zsl(f:Mn->Int->Bool):Bool:=([2,3]:List Int).all λa=>([2,3]:List Int).all λb=>([2,3]:List Int).all λc=>([2,3]:List Int).all λe=>([1,2,3,4,5,6,7,8]:List Int).all λv=>f ⟨a,b,c,e⟩ v
theorem zqi{f:Mn->Int->Bool}(h:zsl f=true){m:Mn}(hm:ckM m=0)(h1:1<=v)(K:v<=8):f m v=true:=by
 have ho:m.Ok:=by
  unfold ckM at hm;split at hm
  ·assumption
  ·simp at hm
 obtain⟨a,b,c,e⟩:=m;have N:v∈([1,2,3,4,5,6,7,8]:List Int):=aj
 have Q:∀x:Int,two3 x->x∈([2,3]:List Int):=λx hx=>by simpa[two3]using hx
 unfold zsl at h;exact jF.1 (jF.1 (jF.1 (jF.1 (jF.1 h a (Q _ ho.1)) b (Q _ ho.2.1)) c (Q _ ho.2.2.1)) e (Q _ ho.2.2.2)) v N
end
section
variable{l:List Sg}
def clr(s:Sg):Bool:=decide (s.Kind=1)&&s.Color
def NC(l:List Sg):Prop:=∀s∈l,clr s=false
def NC.g(h:NC l)(k:Nat):clr (l.getD k default)=false:=by
 rw[jB];cases e:l[k]? with
 |none=>rfl
 |some s=>exact h s (j6 e)
attribute [local irreducible] zbN mulV tmkT perfL
def zb7(s:Sg):Fn prog 195 [sgA s] (.bool (clr s)):=by
 refine bB func195 ntmps195 (λg w d=>?_);apply yc;refine zl ?_;refine ya ?_;apply yp;iterate 3 refine ya ?_
 refine bI 3 ?_;refine yw ?_;iterate 2 refine bE ?_
 refine ge ?_;all_goals rfl
end
section
attribute [local irreducible] clr
def zlS(l:List Sg)(hl:l.length<=4000000000)(i:Int)(h0:0<=i)(h1:i<(l.length:Int))(hn:NC l):Fn prog 262 [sgsA l,iv i] (.bool false):=by
 refine bB func262 ntmps262 (λg w d=>?_);apply yc;refine yk ?_;apply ye;apply yc;iterate 5 refine ya ?_
 refine bI 5 ?_;refine gq ?_;refine bT (zb7 _) ?_;refine gq ?_;refine bT (zb7 _) ?_;refine bE ?_;iterate 2 refine yw ?_
 iterate 7 refine bE ?_
 refine gf ?_ ?_<;>intro Q
 ·refine gq ?_;all_goals rfl
 ·exact absurd Q.1.1.1.2 (by rw[hn.g];decide)
end
section
variable{a i:Int}{j k:Nat}{l:List Sg}{p s:Sg}{v x:Int}
theorem zmR(a:Int):coll posI [a]=if 0<a then[a]else[]:=by
 unfold coll dl posI srtI;by_cases h:0<a
 ·simp only[h,if_true,uP,decide_true,kI,Bool.not_false,List.filter_nil,List.mergeSort_singleton];rfl
 ·simp only[h,if_false,uP,decide_false,kI,Bool.not_false,List.filter_nil,List.mergeSort_nil];simp[Lib.compact,Lib.compactUpTo]
def srt2(h:a<v):srtI [v,a]=[a,v]:=by
 simp_all[srtI,List.mergeSort]
theorem zsm(Q:0<v)(N:a<v):coll posI [v,a]=if 0<a then[a,v]else[v]:=by
 unfold coll;by_cases h:0<a
 ·have e:dl (λv=>!posI v) [v,a]=[v,a]:=by simp[dl,posI,h,Q]
  rw[e,srt2 N,j7 h];have K:¬v=a:=aa
  have H:¬a=v:=aa
  simp[Lib.compact,Lib.compactUpTo,Lib.keeps,wR,K,H]
 simp_all[dl,posI,srtI,Lib.compact,Lib.compactUpTo,Lib.keeps]
def zzV(m:Mn)(h:1<=v):0<=m.ab v/\m.ab v<v:=by
 unfold Mn.ab;cases e:(perfL m).find? λk=>decide (k<v)<;>grind[perfL]
def p23{m:Mn}(Q:ckM m=0):m.p v=2\/m.p v=3:=by
 have N:m.Ok:=by
  unfold ckM at Q;split at Q
  ·assumption
  ·omega
 obtain⟨a,b,c,d⟩:=N
 grind[two3,Mn.p]
theorem zkw{m:Mn}(Q:ckM m=0)(h1:1<=v)(N:v<=8):ckMV m v=0:=by
 simp_all[ckM,ckMV]
def znW{m:Mn}(h1:1<=v):0<=m.aV v/\m.aV v<v:=by
 have:=zzV m h1
 grind[Mn.aV]
def mngR(m:Mn)(s:Sg):List Int:=
 if s.Kind=2 then[m.aV s.Value]else if s.Color=true then[0]else if m.p s.Value=2/\m.aV s.Value=0 then[0]else if m.p s.Value=2 then[0,m.aV s.Value]else if m.aV s.Value=0 then[s.Value]else[m.aV s.Value,s.Value]
theorem zsn{m:Mn}(Q:ckM m=0)(h1:1<=s.Value)(N:s.Value<=8)(K:¬(s.Kind=2/\m.aV s.Value=0)):mngs m s=mngR m s:=by
 have H:=znW (m:=m) h1;have G:=p23 (m:=m) (v:=s.Value) Q
 grind[Mn.pV,zkw,mngs,mngR,zmR,zsm]
theorem zqj{m:Mn}(Q:ckM m=0)(h1:1<=s.Value)(N:s.Value<=8):(mngs m s).length=0↔(s.Kind=2/\m.aV s.Value=0):=by
 grind[zsn,mngR,mngs,zmR]
theorem zuQ{m:Mn}(h0:sgF m l k s=0)(Q:s.Kind≠3):(s.Kind=1\/s.Kind=2)/\1<=s.Value/\s.Value<=8:=by
 simp_all[sgF];omega
def zcD{m:Mn}(h:ckD m l=0):ckM m=0/\zas m l 0 l=0:=by
 grind[ckD]
theorem zzW{m:Mn}(h:ckD m l=0)(hs:l[j+1]? =some s)(K:s.Kind=3)(H:l[j]? =some p):
 p.Kind≠3/\(p.Kind=1\/p.Kind=2)/\1<=p.Value/\p.Value<=8/\¬(p.Kind=2/\m.aV p.Value=0)/\mngs m p=mngR m p:=by
 obtain⟨G,N⟩:=zcD h;have Q:=(zbi N l.length (jG _)).2
 grind[sgF,zuQ,zqj,zsn]
def zjb{l:List Sg}:∀(k:Nat)(x:Int),x∈zh l k->∃(j:Nat)(s:Sg),x=(j:Int)/\l[j]? =some s/\s.Kind=3
 |0,x,hx=>by simp[zh]at hx
 |k+1,x,hx=>by
  simp only[zh,w9]at hx;rcases hx with hx|hx
  ·exact zjb k x hx
  grind
def zuR{m:Mn}(h:ckD m l=0)(hx:x∈zh l l.length):∃(j:Nat)(s p:Sg),x=((j+1:Nat):Int)/\l[j+1]? =some s/\s.Kind=3/\l[j]? =some p/\zhw l x=some p:=by
 obtain⟨j,s,p,h1,N,K⟩:=zdn (zcD h).2 l.length (jG _) x hx;obtain⟨j',s',G,Q,H⟩:=zjb l.length x hx;have:j'=j+1:=aa
 subst this;rw[N]at Q;injection Q with Q;subst Q;refine⟨j,s,p,h1,N,H,K,?_⟩;simp_all[zhw]
def ownV:List Int->Int->Int
 |[],_=>0
 |x::r,v=>if x=0\/x=v then x else ownV r v
def zij(m:Mn)(l:List Sg)(i:Int)(p:Sg):Int:=
 if(mngR m p).length=1 then(mngR m p).headD 0 else if zmL l i>p.Value then ownV (mngR m p) p.Value else m.aV p.Value
theorem zso{m:Mn}(Q:ckM m=0)(h1:1<=p.Value)(N:p.Value<=8)(he:mngs m p=mngR m p):zbQ m l i p=zij m l i p:=by
 have K:=znW (m:=m) h1;have H:=p23 (m:=m) (v:=p.Value) Q
 grind[Mn.pV,zkw,zbQ,zij,mngR,ownV]
end
section
end
section
def zhZ(m:Mn)(l:List Sg)(hl:l.length<=4000000000)(hn:NC l):It prog 261 [.ept (λ_:Unit=>[.sl sgE l]) () 0,.ept (λ_:Unit=>mnE m) () 0] []:=by
 refine zc1 func261 ntmps261 (λg w d ds Y lY hY=>?_);apply yc;refine yo ?_;apply kX;refine y9 [0,1,2,6] (λk zz=>(7,iv (k:Int))::zz) [1000000] (λk zz=>zz) l.length (λk hk=>?_);refine gd ?_ ?_<;>intro xT
 ·apply yf;apply ye;apply kX;apply yc;refine yC ?_;apply ye;cases G:decide (m.Pro=2)
  ·have Q:(decide (m.Pro=2)==true)=false:=by rw[G];rfl
   apply yd;(iterate 4 refine ya ?_);(iterate 3 refine zbc ?_);(iterate 2 refine ya ?_);(iterate 4 refine zbc ?_);refine gd ?_ ?_<;>intro N
   ·exact absurd N ac
   refine gq ?_;refine yr (k+1)
  ·have Q:(decide (m.Pro=2)==true)=true:=by rw[G];rfl
   apply yd;(iterate 4 refine ya ?_);iterate 2 refine zS ?_
   (refine zxP rfl rfl ?_ (za4 rfl rfl rfl (bK _) (zlS l hl (k:Int) aa aa hn)) rfl rfl ?_;iterate 1(· first|exact Q|assumption|rfl|(simp_all;done)|omega))
   (iterate 2 refine ya ?_);(iterate 4 refine zbc ?_);refine gd ?_ ?_<;>intro K
   ·exact absurd K ac
   refine gq ?_;refine yr (k+1)
 ·have H:k=l.length:=aa
  subst H;apply bH;exact⟨.inl rfl,_,true,rfl,λ_=>rfl⟩
def zj2(m:Mn)(l:List Sg):Fn prog 227 [mnA m,sgsA l] (.fn 261 [.ept (λ_:Unit=>[.sl sgE l]) () 0,.ept (λ_:Unit=>mnE m) () 0]):=by
 refine bB func227 ntmps227 (λg w d=>?_);refine gq ?_;refine zax ?_;refine ya ?_;apply yp;refine yC ?_;refine bC ?_;refine yi ((bG (k:=2) rfl rfl).trans (bG (k:=3) rfl rfl)) ?_;refine gq ?_;all_goals exact zR
end
end Go.Rse
