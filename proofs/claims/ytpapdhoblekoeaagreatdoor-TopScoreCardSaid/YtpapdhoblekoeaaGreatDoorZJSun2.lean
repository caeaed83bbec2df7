/-
  Walks.
-/
import Derived.Test.YtpapdhoblekoeaaGreatDoorZJItF0
import Derived.Shelf.SlSortCmp.NoneTotal
set_option linter.all false
set_option maxHeartbeats 8000000
namespace Go.Rse
open Go Go.Proofs Go.Proofs.Tryz
section
attribute [local irreducible] Pur yy yu Ex X Fn Imp LeV LeB FnO It yA
section
variable{C:Ctx}{P:Program}{a:Act}{g:Gh}{k:Nat}{n:Int}{st:St}{ty:TypeId}{v:Tm}{w:World}
structure UtK(us:List Int):Prop where
 l:us.length<=400
 p:Pos us
 b:us.sum<=1000000
def UtK.q{us:List Int}(h:UtK us)(k:Nat):Uq (pf us k):=by
 refine⟨zgm h.p k,?_⟩;have h1:=zca h.p (Nat.le_max_left k us.length);have Q:pf us (max k us.length)=us.sum:=by unfold pf;rw[wE aa]
 have:=h.b;omega
def UtK.u{us:List Int}{u:Int}(h:UtK us)(Q:us[k]? =some u):Uq u/\pf us k+u=pf us (k+1)/\pf us k+u<=1000000000:=by
 have h1:=zuC Q;have N:=h.q (k+1);have K:=h.p u (j6 Q);have H:=zgm h.p k;exact⟨⟨aa,by have:=N.2;omega⟩,h1.symm,by have:=N.2;omega⟩
def zqk{q:Int}{l:List (Int×Tm)}{t K E:TypeId}{x y:Operand}(Q:mget q l=some v)(hx:ev st x=some (.mp k))(hk:lk st.h k=some (.mpb (λi:Int=>.int .i64 i) tmA l))(N:ev st y=some (.int .i64 q))
 (ht:P.underlying t=some (.map K E))(H:P.underlying K=some (.int .i64))(G:(P.info? E).bind (·.zero)=some (.agg #[.int .i64 0,.int .i64 0])):Pur P C (.lookup t x y false) ty st (tmA v):=by
 have h:=zg6 (venc:=tmA) (P:=P) (C:=C) (ty:=ty) tmZ hx hk N ht H (λ_ _=>rfl) (znh G);rw[Q]at h;exact h
def zz7(hr:Rel C st g a w)(k kb s:Nat){E T:TypeId}(hk:lk st.h k=some (.box [.int .i64 n] E))(N:lk st.h kb=some (.box [.ptr k 0 0 0] T))(Q:k.beq kb=false)(hs:lk st.t s=some (.ptr k 0 0 0)):
 ∃b g',Rel C ⟨(s,.ept (λ_:Unit=>[.int .i64 n]) () 0)::mapT (frzB kb [pAt b]) (mapT (frzV k (.pointer (some ⟨b,0,none⟩))) st.t),(kb,.dead)::mapH (frzB kb [pAt b]) ((k,.dead)::mapH (frzV k (.pointer (some ⟨b,0,none⟩))) st.h)⟩ g' a w/\∀ds,BoxO b (.int .i64 n) ds g'.I g'.O w:=by
 obtain⟨b,g1,r1,i1,K⟩:=hr.letBox hk;have e1:frzV k (.pointer (some ⟨b,0,none⟩)) (.ptr k 0 0 0)=pAt b:=by simp[frzV]
 obtain⟨g2,r2,o2,l2⟩:=r1.freezeBox (k:=kb) (cs:=[pAt b]) (E:=T) (by
  show lk ((k,Blk.dead)::_) kb=_;simp only[ym,Q,cond_false,zeT,N];simp[mapB,e1]) rfl
 have i2:g2.I b 0=some (.int .i64 n):=l2 _ _ _ i1;exact⟨b,g2,r2.sure (s:=s) (b:=b) (by simp only[zgE,hs,wS,e1];rfl) i2,λds=>(K ds).up o2⟩
attribute [local irreducible] ItX zaJ ntI kpL plL ofM atL enX tq pf mget mput
set_option maxRecDepth 9999 in
def zje(nm:ByteArray)(z:List Sg)(h:PtK nm z)(hr:NoR z)(s0:Sg)(h0:z[0]? =some s0)(x1:tmd s0=false)(us:List Int)(hu:UtK us)(xT:us.length=(ntI z z.length).length)(b:Nat):ItX prog 67 [.ept (λ_:Unit=>[.str nm,sgsA z]) () 0,.ept (λ_:Unit=>[tmsA (us.map tq)]) () 0,.ept (λ_:Unit=>[pAt b]) () 0] (λj zs=>(enX us)[j]? =some zs) (· =(enX us).length) (BoxO b (.int .i64 0)):=by
 have hl:=h.hl;have x0:(us.map tq).length=us.length:=jD ..;have v8:((ntI z z.length).map λi=>(⟨i,0⟩:Pl)).length=us.length:=by rw[jD,xT]
 have v5:=hu.l;refine ItX.intro (ts:=λlY=>[(0,.yv lY),(1,.ept (λ_:Unit=>[.str nm,sgsA z]) () 0),(2,.ept (λ_:Unit=>[tmsA (us.map tq)]) () 0),(3,.ept (λ_:Unit=>[pAt b]) () 0)]) (n:=60) ae func67 rfl ntmps67 rfl (λ_=>rfl) ah (λg w d ds Y lY v4 hH hY=>?_);apply yc;refine bP (zaH (k:=12) (λi:Int=>iv i) tmA) rfl rfl ?_;refine gq ?_;refine zf (zc7 nm z aa) ?_;refine yC ?_;apply kX;have hz:[]=ofM (ntI z z.length) (us.map tq) 0:=by unfold ofM;rfl
 refine y9 [0,1,2,3,5,14,15] (λk zz=>(16,iv (k:Int))::zz) [1000000] (λk zz=>(12,.mpb (λi:Int=>iv i) tmA (ofM (ntI z z.length) (us.map tq) k))::zz) us.length (λk hk=>?_);refine gd ?_ ?_<;>intro v3
 ·have w2:=@getX _ (ntI z z.length) k aa;obtain⟨i,hi,v2⟩:=w2;obtain⟨u,Q⟩:∃u,us[k]? =some u:=⟨_,lgg aa⟩;have ht:(us.map tq)[k]? =some (tq u):=by rw[j9,Q];rfl
  have v1:(us.map tq)[(k:Int).toNat]? =some (tq u):=ao ht
  have v0:=zrr hi ht;refine gq ?_;refine yX (zal (venc:=tmA) (tq u) rfl rfl rfl rfl rfl ⟨Tryz.underlying183,_,Tryz.underlying3⟩ ⟨_,Tryz.underlying3,rfl⟩ (λ_ _=>rfl)) ?_;refine gq ?_;refine yr (k+1) (hI:=kW)
 ·obtain rfl:k=us.length:=aa
  refine gq ?_;refine zf (zfY nm z h hr s0 h0 x1) ?_;refine yC ?_;apply kX;have k9:[iv 0,iv 1]=[iv (tq (pf us 0)).N,iv (tq (pf us 0)).D]:=by have hq:tq 0=⟨0,1⟩:=zkq 0;rw[ziZ,hq]
  refine y9 [0,1,2,3,5,8,30,31] (λk zz=>(32,iv (k:Int))::zz) [12] (λk zz=>(1000000,.yld k true)::(8,.box [iv (tq (pf us k)).N,iv (tq (pf us k)).D] 35)::zz) us.length (λk hk=>?_);refine gd ?_ ?_<;>intro k8
  ·have G:k<us.length:=aa
   obtain⟨i,hi⟩:∃i,(ntI z z.length)[k]? =some i:=⟨_,lgg aa⟩;have k7:((ntI z z.length).map λi=>(⟨i,0⟩:Pl))[(k:Int).toNat]? =some ⟨i,0⟩:=by rw[jN,j9,hi];rfl
   obtain⟨u,Q⟩:∃u,us[k]? =some u:=⟨_,lgg G⟩;have ht:(us.map tq)[k]? =some (tq u):=by rw[j9,Q];rfl
   have hg:=zlm (zxa z _) (T:=us.map tq) (by rw[x0,xT]) us.length aa k G i (tq u) hi ht;have v9:=hu.u Q;obtain⟨q1,q2,q3⟩:=v9;have K:=zrt (hu.q k) q1 q3;rw[q2]at K;apply yf;apply ye;apply kX;apply yc;(iterate 2 refine ya ?_);refine yP ?_;refine bF ?_;apply yp;refine yP ?_;apply bD;apply ye;refine zY [⟨0,37,pAt b,[]⟩,⟨1,38,.agg [iv (tq (pf us k)).N,iv (tq (pf us k)).D],[]⟩,⟨2,39,.mp 12,[]⟩,⟨3,40,.ptr 10 0 0 0,[]⟩,⟨4,41,iv i,[3]⟩,⟨5,42,tmA (tq u),[3,4,2]⟩,⟨6,43,.tup [tmA (tq (pf us (k+1))),iv 0],[3,4,2,5,1]⟩,⟨7,36,.tup [tmA (tq (pf us (k+1))),iv 0],[3,4,2,5,1,6]⟩,⟨8,44,tmA (tq (pf us (k+1))),[3,4,2,5,1,6,7]⟩,⟨9,45,iv 0,[3,4,2,5,1,6,7]⟩,⟨11,46,pAt b,[10,9,8,7,6,5,4,3,2,1,0]⟩] [(10,[7,5,4,3,2,1,6,8]),(12,[8,7,6,5,4,3,2,1,0,10,9,11])] (let T:=[(0,.yv lY),(1,.ept (λ_:Unit=>[.str nm,sgsA z]) () 0),(2,.ept (λ_:Unit=>[tmsA (us.map tq)]) () 0),(3,.ept (λ_:Unit=>[pAt b]) () 0),(5,.mp 12),(8,.ptr 8 0 0 0),(10,.ptr 10 0 0 0),(11,.ptr 11 0 0 0),(30,.sl plE ((ntI z z.length).map λi=>⟨i,0⟩)),(31,iv (us.length:Int)),(32,iv (k:Int))];let H:=[(1000000,.yld k true),(12,.mpb (λi:Int=>iv i) tmA (ofM (ntI z z.length) (us.map tq) us.length)),(8,.box [iv (tq (pf us k)).N,iv (tq (pf us k)).D] 35),(10,.box [iv i,iv 0] 138)];λj=>match j with|0=>⟨T,(11,.box [iv 0,iv 0] 35)::H⟩|1=>⟨T,(11,.box [iv (tq (pf us (k+1))).N,iv (tq (pf us (k+1))).D] 35)::H⟩|_=>⟨T,(11,.box [iv (tq (pf us (k+1))).N,iv (tq (pf us (k+1))).D] 35)::H⟩) mo (zP (yh)) (λj hj=>?_) ⟨λβ=>Co2 rfl (zav rfl rfl rfl rfl ty35 rfl (leB rfl)),λβ=>Co2 rfl (zrO hH rfl rfl ty29),trivial⟩ ?_
   ·rcases j with _|_|_|j
    ·(iterate 3 refine⟨.inr ⟨_,rfl,rfl,rfl,rfl,bA yU⟩,?_⟩);refine⟨.inr ⟨_,rfl,rfl,rfl,rfl,bA (zbK rfl rfl)⟩,?_⟩;refine⟨.inr ⟨_,rfl,rfl,rfl,rfl,bA yU⟩,?_⟩;refine⟨.inr ⟨_,rfl,rfl,rfl,rfl,bA (zqk hg rfl rfl rfl Tryz.underlying183 Tryz.underlying3 ze35)⟩,?_⟩;refine⟨.inr ⟨_,rfl,rfl,rfl,rfl,za4 rfl rfl rfl (bK _) K⟩,?_⟩;exact yE
    ·refine⟨.inr ⟨_,rfl,rfl,rfl,rfl,bA yU⟩,?_⟩;(iterate 8 refine⟨.inl rfl,?_⟩);refine⟨.inr ⟨_,rfl,rfl,rfl,rfl,bA yU⟩,?_⟩;refine⟨.inr ⟨_,rfl,rfl,rfl,rfl,bA (zht rfl)⟩,?_⟩;exact True.intro
    ·exact yE
    ·exact absurd (show j+3<=2 from hj) aa
   apply ye;apply yc;refine ya ?_;refine ya ?_ (hs:=by exact zht rfl);refine ya (x:=iv 0) ?_ (hs:=by exact zuu hH rfl ty29);(iterate 2 refine ya ?_);refine zk rfl rfl rfl ?_;refine ya ?_;refine zk rfl rfl rfl ?_;refine ya ?_;refine zk rfl rfl rfl ?_;refine ya ?_;refine zk rfl rfl rfl ?_;refine zhk hY rfl rfl rfl (bK _) rfl rfl (zrs G) rfl (λbb=>?_);refine zk rfl rfl rfl ?_;refine ya ?_;refine yO (zcj rfl rfl rfl) rfl ?_;refine gd ?_ ?_<;>intro x2
   ·subst x2;refine bC ?_;refine⟨.inr rfl,_,false,rfl,λhb=>by simp at hb⟩
   subst x2;refine gq ?_;refine yr (k+1) (hI:=kW)
  ·obtain rfl:k=us.length:=aa
   apply bH;refine⟨.inl rfl,_,true,rfl,λ_=>(zln us).symm⟩
set_option maxRecDepth 9999 in
def zer(nm:ByteArray)(z:List Sg)(h:PtK nm z)(hr:NoR z)(s0:Sg)(h0:z[0]? =some s0)(K:tmd s0=false)(us:List Int)(hu:UtK us)(G:us.length=(ntI z z.length).length)(hok:ScOk z)(hf:Fn prog 65 [.agg [.str nm,sgsA z]] (.tup [tmsA (faL z z.length),iv 0]))(D:List Tm)(hT:TfK z D (us.map tq)):Fn prog 13 [.agg [.str nm,sgsA z],tmsA D] (.tup [tmsA (atL us us.length),tmA (tq us.sum),iv 0]):=by
 have he:=zln us;have xT:pf us (enX us).length=us.sum:=by rw[he];unfold pf;rw[jR]
 have v4:=hu.l;have v8:[iv 0,iv 1]=[iv (tq (pf us 0)).N,iv (tq (pf us 0)).D]:=by have hq:tq 0=⟨0,1⟩:=zkq 0;rw[ziZ,hq]
 have v5:=zBZ us;refine bB func13 ntmps13 (λg w d=>?_);refine gc (zfe nm z h hr hok h.hl hf D (us.map tq) hT) ?_;refine gd ?_ ?_<;>intro x2
 ·exact absurd rfl x2
 apply yf;apply yc;refine yP ?_;apply bD;apply ye;refine yl (zK tmE 35 2 9 41 48 rfl rfl) ?_;refine gq ?_;refine y0 [(2000000,8),(5,26)] (zlq nm z (us.map tq)) ?_;apply bD;apply kX;refine yl (st':=⟨[(5,.ptr 5 0 0 0),(8,.ptr 8 0 0 0),(9,.ptr 9 0 0 0),(10,.ptr 10 0 0 0),(26,.fn 67 [.ept (λ_:Unit=>[.str nm,sgsA z]) () 0,.ept (λ_:Unit=>[tmsA (us.map tq)]) () 0,.ptr 26 0 0 0])],[(8,.box [iv 0] 29),(26,.box [.ptr 8 0 0 0] 109),(5,.box [iv 0,iv 0] 35),(9,.box [.own 41] 48),(41,.row tmE (atL us 0) 35 2),(10,.box [iv (tq (pf us 0)).N,iv (tq (pf us 0)).D] 35)]⟩) kW ?_
 refine zrP (sl:=[8,9,10,5]) (H:=λb=>BoxO b (.int .i64 0)) (caps':=λb=>[.ept (λ_:Unit=>[.str nm,sgsA z]) () 0,.ept (λ_:Unit=>[tmsA (us.map tq)]) () 0,.ept (λ_:Unit=>[pAt b]) () 0]) (λi=>([.ept (λ_:Unit=>[iv 0]) () 0,.ptr 9 0 0 0,.ptr 10 0 0 0,.ptr 5 0 0 0],[(5,.box [iv 0,iv 0] 35),(9,.box [.own 41] 48),(41,.row tmE (atL us i) 35 2),(10,.box [iv (tq (pf us i)).N,iv (tq (pf us i)).D] 35)])) (λ_=>True) 900001 900002 rfl (λ_=>rfl) ac (λj zs Q=>by obtain⟨_,rfl⟩:=zlo Q;rfl) (λb=>zje nm z h hr s0 h0 K us hu G b) trivial rfl rfl ac (jU _) ah (λj zs Q=>by obtain⟨_,rfl⟩:=zlo Q;rfl) (λ_=>rfl) rfl rfl (λlL oo uu g a w x1=>by
  have x0:=zz7 x1 8 26 8 rfl rfl rfl rfl;obtain⟨b,g',r,hB⟩:=x0;exact⟨b,g',r.ax,hB _⟩) trivial (λi zs Q hJ l ready busy rb vs g w hb v3=>?_) (λhJ=>?_)
 ·have w2:=zlo Q;obtain⟨v2,rfl⟩:=w2;have v1:=zB0 us i;have v0:=zoT us i;apply yc;refine yP ?_;refine bF ?_;apply bD;apply yd;refine yP ?_;refine bF ?_;apply bD;refine⟨rfl,rfl,?_⟩;apply kX;refine zY [⟨1,30,.agg [iv (tq (pf us i)).N,iv (tq (pf us i)).D],[]⟩,⟨2,31,tmsA [tq (pf us i)],[1]⟩,⟨4,33,.agg [iv (tq (pf us (i+1))).N,iv (tq (pf us (i+1))).D],[]⟩] [(0,[]),(3,[1,2,0]),(5,[2,1,0,3]),(6,[3,2,1,0,5,4])] (let T:=[(5,.ptr 5 0 0 0),(8,.ept (λ_:Unit=>[iv 0]) () 0),(9,.ptr 9 0 0 0),(10,.ptr 10 0 0 0),(11,.ptr 11 0 0 0),(12,.ptr 12 0 0 0)];let H:=[(900002,.hold vs [.ept (λ_:Unit=>[iv 0]) () 0,.ptr 9 0 0 0,.ptr 10 0 0 0,.ptr 5 0 0 0]),(900001,.obj l busy),(5,.box [iv 0,iv 0] 35),(11,.box [iv (tq (pf us i)).N,iv (tq (pf us i)).D] 35),(12,.box [iv (tq (pf us (i+1))).N,iv (tq (pf us (i+1))).D] 35)];λj=>match j with|0=>⟨T,(9,.box [.own 41] 48)::(41,.row tmE (atL us i) 35 2)::(10,.box [iv (tq (pf us i)).N,iv (tq (pf us i)).D] 35)::H⟩|1=>⟨(29,.own 41)::T,(9,.box [.own 41] 48)::(41,.row tmE (atL us i) 35 2)::(10,.box [iv (tq (pf us i)).N,iv (tq (pf us i)).D] 35)::H⟩|2=>⟨(32,.own 41)::T,(9,.box [.any] 48)::(41,.row tmE (atL us i++[tq (pf us i)]) 35 2)::(10,.box [iv (tq (pf us i)).N,iv (tq (pf us i)).D] 35)::H⟩|3=>⟨T,(9,.box [.own 41] 48)::(41,.row tmE (atL us i++[tq (pf us i)]) 35 2)::(10,.box [iv (tq (pf us i)).N,iv (tq (pf us i)).D] 35)::H⟩|_=>⟨T,(9,.box [.own 41] 48)::(41,.row tmE (atL us i++[tq (pf us i)]) 35 2)::(10,.box [iv (tq (pf us (i+1))).N,iv (tq (pf us (i+1))).D] 35)::H⟩) mo (zP (yh)) (λj Q=>?_) ⟨λβ=>Co2 rfl (yW (bA yU) rfl rfl),λβ=>Co2 rfl (zaw (l2:=[tq (pf us i)]) rfl rfl rfl sl48 ti35 ac ac (λ_=>rfl) (λ_=>rfl) (by simp only[w5,uM];omega) rfl),λβ=>Co2 rfl (zX rfl rfl rfl rfl TyK.h ah),λβ=>Co2 rfl (zav rfl rfl rfl rfl ty35 rfl (leB rfl)),trivial⟩ ?_
  ·rcases j with _|_|_|_|_|j
   ·refine⟨.inr ⟨_,rfl,rfl,rfl,rfl,bA yU⟩,?_⟩;refine⟨.inr ⟨_,rfl,rfl,rfl,rfl,zu (enc:=tmE) (l:=[tq (pf us i)]) sl48 ty35 ze35 ac rfl rfl rfl rfl ac ac (λ_=>rfl) rfl⟩,?_⟩;exact yE
   ·refine⟨.inr ⟨_,rfl,rfl,rfl,rfl,bA yU⟩,?_⟩;refine⟨.inr ⟨_,rfl,rfl,rfl,rfl,zu (enc:=tmE) (l:=[tq (pf us i)]) sl48 ty35 ze35 ac rfl rfl rfl rfl ac ac (λ_=>rfl) rfl⟩,?_⟩;exact yE
   ·exact yE
   ·exact yE
   ·exact yE
   ·exact absurd (show j+5<=4 from Q) aa
  refine⟨[.ept (λ_:Unit=>[iv 0]) () 0,.ptr 9 0 0 0,.ptr 10 0 0 0,.ptr 5 0 0 0],[(5,.box [iv 0,iv 0] 35),(9,.box [.own 41] 48),(41,.row tmE (atL us (i+1)) 35 2),(10,.box [iv (tq (pf us (i+1))).N,iv (tq (pf us (i+1))).D] 35)],kW,rfl,trivial⟩
 refine gd ?_ ?_<;>intro v9
 ·exact absurd rfl v9
 refine gq ?_;refine y4 [4,38,39] [0,0,1,7,15] mo ?_;iterate 3 refine yb ?_
 refine yD ?_;refine bF ?_;refine yk ?_;refine bC ?_;refine yi (kY (k:=41) rfl) ?_;refine bJ (.many ac (.cons (.tmp rfl (kZ ?_)) (.cons (.cellA rfl rfl rfl rfl ty35 (kZ ?_)) (.cons (.tmp rfl (kZ ?_)) .nil))));all_goals(first|rfl|exact jA (λz=>tmsA (atL us z)) he|exact jA (λz=>tmA (tq z)) xT)
end
section
variable{C:Ctx}{P:Program}{i:Int}{l:List Sg}{q:Int}{s:Sg}{st:St}{ty:TypeId}{u:Int}{us:List Int}{x y:Operand}{zs:List AV}
structure Sff where
 c:Int
 n:Int
 is:Bool
 k:Int
def sffE:Sff->List AV:=λs=>[iv s.c,iv s.n,.bool s.is,iv s.k]
def sfO(a:Sff)(s:Sg):Sff:=if s.Kind=7 then⟨s.CStep,s.CLine,true,a.k⟩else if s.Kind=8 then⟨a.c,a.n,a.is,s.N⟩else a
def sfF(l:List Sg)(k:Nat):Sff:=(l.take k).foldl sfO ⟨0,0,false,0⟩
def zxB{k:Nat}(h:l[k]? =some s):sfO (sfF l k) s=sfF l (k+1):=by unfold sfF;rw[jK,h];simp
def svX(l:List Sg):List (List AV):=(List.range l.length).map λ(k:Nat)=>[iv (k:Int),.agg (sffE (sfF l (k+1)))]
theorem zsy{k:Nat}(h:k<l.length):(svX l)[k]? =some [iv (k:Int),.agg (sffE (sfF l (k+1)))]:=by unfold svX;simp[h]
theorem zl2(l:List Sg):(svX l).length=l.length:=by unfold svX;simp
def zl3{k:Nat}(h:(svX l)[k]? =some zs):k<l.length/\zs=[iv (k:Int),.agg (sffE (sfF l (k+1)))]:=by
 grind[zl2,zsy]
def ptM(l:List Sg):Nat->List (Int×Pt)
 |0=>[]
 |k+1=>match l[k]? with
  |some s=>if s.Kind=1 then mput (k:Int) (clN s.Place) (ptM l k)else ptM l k
  |none=>ptM l k
def zDh{k:Nat}(h:l[k]? =some s)(c:s.Kind=1):mput (k:Int) (clN s.Place) (ptM l k)=ptM l (k+1):=by simp_all[ptM]
def zDi{k:Nat}(h:l[k]? =some s)(c:¬s.Kind=1):ptM l k=ptM l (k+1):=by simp_all[ptM]
def zpw{l:List Sg}{i:Nat}{s:Sg}(h:l[i]? =some s):∀k,k<=l.length->mget (i:Int) (ptM l k)=if i<k/\s.Kind=1 then some (clN s.Place)else none
 |0,_=>by rfl
 |k+1,hk=>by
  obtain⟨t,ht⟩:∃t,l[k]? =some t:=⟨_,lgg aa⟩;have ih:=zpw h k aa;by_cases e:i=k;all_goals grind[zeI,ptM]
def ptS(s:Sg):Pt:=if s.Kind=1 then clN s.Place else⟨0,0,0⟩
def nuS(l:List Sg)(u i:Int):Nu:=⟨u,ptS (l.getD i.toNat default),decide ((l.getD i.toNat default).Kind=2),i,0⟩
def voP(l:List Sg)(us:List Int):List Nu:=List.zipWith (nuS l) us (ntI l l.length)
def zeS(h:us.length=(ntI l l.length).length):(voP l us).length=us.length:=by unfold voP;simp[h]
def zsz(h:us.length=(ntI l l.length).length):usV (voP l us)=us:=by
 unfold voP usV;apply wN
 grind[nuS]
def zsA{k:Nat}(Q:us[k]? =some u)(hi:(ntI l l.length)[k]? =some i)(hs:l[i.toNat]? =some s):(voP l us)[k]? =some ⟨u,ptS s,decide (s.Kind=2),i,0⟩:=by
 simp_all[voP,List.getElem?_zipWith,nuS]
def zDj(h:us.length=(ntI l l.length).length){k:Nat}(Q:us[k]? =some u)(hi:(ntI l l.length)[k]? =some i)(hs:l[i.toNat]? =some s):(evL (voP l us)).take k++[⟨tq (pf us k),tq u,ptS s,decide (s.Kind=2),i,0⟩]=(evL (voP l us)).take (k+1):=by
 simp_all[zdJ,zsA,evA,zsz,jK]
def zn0{k:Nat}(h:(ntI l l.length)[k]? =some i):∃(n:Nat)(s:Sg),i=(n:Int)/\l[n]? =some s/\tmd s=true:=by
 have:=j6 h
 grind[ntI]
def nuR(n:Nat):List Int:=(List.range n).map λ(i:Nat)=>(i:Int)
def zsB{n k:Nat}(h:k<n):(nuR n)[k]? =some (k:Int):=by unfold nuR;simp[h]
def zuV(n:Nat):(nuR n).length=n:=by unfold nuR;simp
def zDk{n k:Nat}(h:k<n):(atL us n)[k]? =some (tq (pf us k)):=by unfold atL;simp[h]
def zql{l:List (Int×Int)}{t K E:TypeId}{k:Nat}{v:Int}(hg:mget q l=some v)(hx:ev st x=some (.mp k))(hk:lk st.h k=some (.mpb (λi:Int=>.int .i64 i) (λi:Int=>iv i) l))(Q:ev st y=some (.int .i64 q))
 (ht:P.underlying t=some (.map K E))(N:P.underlying K=some (.int .i64))(H:(P.info? E).bind (·.zero)=some (.int .i64 0)):Pur P C (.lookup t x y false) ty st (iv v):=by
 have h:=zg6 (venc:=λi:Int=>iv i) (P:=P) (C:=C) (ty:=ty) 0 hx hk Q ht N (λ_ _=>rfl) (by
  obtain⟨i,h1,G⟩:=x5.1 H;exact⟨_,i,h1,G,λI=>.int _ _⟩)
 grind
def zqm{l:List (Int×Pt)}{t K E:TypeId}{k:Nat}{v:Pt}(hg:(mget q l).getD ⟨0,0,0⟩=v)(hx:ev st x=some (.mp k))(hk:lk st.h k=some (.mpb (λi:Int=>.int .i64 i) piA l))(H:ev st y=some (.int .i64 q))
 (ht:P.underlying t=some (.map K E))(G:P.underlying K=some (.int .i64))(hz:(P.info? E).bind (·.zero)=some (.agg #[.int .i64 0,.int .i64 0,.int .i64 0])):Pur P C (.lookup t x y false) ty st (piA v):=by
 have h:=zg6 (venc:=piA) (P:=P) (C:=C) (ty:=ty) ⟨0,0,0⟩ hx hk H ht G (λ_ _=>rfl) (by
  obtain⟨i,h1,h2⟩:=x5.1 hz;refine⟨_,i,h1,h2,λI=>.agg _ [.int .i64 0,.int .i64 0,.int .i64 0] rfl λj c v Q N=>?_⟩;rcases j with _|_|_|j<;>simp[piE]at Q N<;>(subst Q;subst N;exact .int _ _))
 grind
attribute [local irreducible] ItX zaJ ntI plL ofM atL enX tq pf mget mput sfF svX ptM voP evL nuR clN rsK rpV rusV
def zfF(a:Sff)(s:Sg)(b:Sff)(K:sfO a s=b):FnO prog 76 [sgA s,.ptr 2000000 0 0 0] [(2000000,.box (sffE a) 131)] [2000000] (.agg (sffE b)) [(2000000,.box (sffE b) 131)]:=by
 refine c8 [.ptr 2000000 0 0 0] func76 ntmps76 (λg w d vs=>?_);refine gd ?_ ?_<;>intro Q
 ·have H:sfO a s=⟨s.CStep,s.CLine,true,a.k⟩:=by unfold sfO;rw[j7 Q]
  rw[H]at K;subst K;apply yd;iterate 3 refine ya ?_
  refine bF ?_;refine ya ?_;refine bF ?_;apply Ex.nil;apply yc;refine ya ?_;refine bF ?_;apply bD;refine bC ?_;refine znf.mk [(3,.ptr 3 0 0 0)] [(3,.box (sffE ⟨s.CStep,s.CLine,true,a.k⟩) 131)] (.inr rfl) (.one (.cellA rfl rfl rfl rfl zpX (kZ ?_)));all_goals rfl
 ·refine gd ?_ ?_<;>intro G
  ·have H:sfO a s=⟨a.c,a.n,a.is,s.N⟩:=by unfold sfO;rw[j8 Q,j7 G]
   rw[H]at K;subst K;apply yd;(iterate 3 refine ya ?_);refine bF ?_;apply Ex.nil;apply yc;refine ya ?_;refine bF ?_;apply bD;refine bC ?_;refine znf.mk [(3,.ptr 3 0 0 0)] [(3,.box (sffE ⟨a.c,a.n,a.is,s.N⟩) 131)] (.inr rfl) (.one (.cellA rfl rfl rfl rfl zpX (kZ ?_)));all_goals rfl
  ·have H:sfO a s=a:=by unfold sfO;rw[j8 Q,j8 G]
   rw[H]at K;subst K;apply yf;apply yc;refine ya ?_;refine bF ?_;apply bD;refine bC ?_;refine znf.mk [(3,.ptr 3 0 0 0)] [(3,.box (sffE a) 131)] (.inr rfl) (.one (.cellA rfl rfl rfl rfl zpX (kZ ?_)));all_goals rfl
def zjf(nm:ByteArray)(z:List Sg):Fn prog 38 [.agg [.str nm,sgsA z]] (.fn 75 [.ept (λ_:Unit=>[.str nm,sgsA z]) () 0]):=by
 refine bB func38 ntmps38 (λg w d=>?_);apply yc;refine zl ?_;refine ya ?_;apply yp;refine yC ?_;refine bC ?_;refine yi (bG (k:=1) rfl rfl) ?_;refine gq ?_;all_goals rfl
def zhg(nm:ByteArray)(z:List Sg)(hl:z.length<=400):It prog 75 [.ept (λ_:Unit=>[.str nm,sgsA z]) () 0] (svX z):=by
 have hz:([iv 0,iv 0,.bool false,iv 0]:List AV)=sffE (sfF z 0):=by unfold sfF;rfl
 refine zc1 func75 ntmps75 (λg w d ds Y lY K=>?_);apply yc;refine yP ?_;apply yp;iterate 2 refine ya ?_
 apply yp;refine ya ?_;refine yo ?_;apply kX;refine y9 [0,4,9,10] (λk zz=>(11,iv (k:Int))::zz) [] (λk zz=>(1000000,.yld k true)::(3,.box (sffE (sfF z k)) 131)::zz) z.length (λk hk=>?_);refine gd ?_ ?_<;>intro H
 ·have Q:k<z.length:=aa
  obtain⟨s,hs⟩:∃s,z[k]? =some s:=⟨_,lgg Q⟩;have G:z[(k:Int).toNat]? =some s:=ao hs
  refine gq ?_;refine y0 [(2000000,3)] (zfF (sfF z k) s _ (zxB hs)) ?_;refine bX K rfl rfl rfl (bK _) rfl rfl (zsy Q) rfl (λb=>?_);refine gd ?_ ?_<;>intro N
  ·subst N;refine bC ?_;refine⟨.inr rfl,_,false,rfl,λhb=>by simp at hb⟩
  subst N;refine gq ?_;refine yr (k+1) (hI:=kW)
 ·obtain rfl:k=z.length:=aa
  apply bH;refine⟨.inl rfl,_,true,rfl,λ_=>(zl2 z).symm⟩
def zn1(nm:ByteArray)(z:List Sg)(h:PtK nm z)(hr:NoR z)(s0:Sg)(h0:z[0]? =some s0)(x1:tmd s0=false)(us:List Int)(hu:UtK us)(K:us.length=(ntI z z.length).length)(hok:ScOk z)(hf:Fn prog 65 [.agg [.str nm,sgsA z]] (.tup [tmsA (faL z z.length),iv 0]))(D:List Tm)(hT:TfK z D (us.map tq))(x0:∀(k:Nat)(s:Sg),z[k]? =some s->s.Kind=1->sfF z (k+1)=⟨0,3,true,0⟩/\s.Acc=0/\-4<=s.Place/\s.Place<=12)(hD:∀d∈D,¬d.N=0):Fn prog 20 [.agg [.str nm,sgsA z],tmsA D] (.tup [evsA (evL (voP z us)),iv 0]):=by
 have hl:=h.hl;have hW:=hu.l;have v5:(us.map tq).length=us.length:=jD ..;have hG:D.length=us.length:=by rw[←hT.t,v5]
 have hF:=zoT us us.length;have v4:=zuV us.length;have hC:((ntI z z.length).map λi=>(⟨i,0⟩:Pl)).length=us.length:=by rw[jD,K]
 have v3:=zl2 z;have v2:(evL (voP z us)).length=us.length:=by rw[zj,zeS K]
 refine bB func20 ntmps20 (λg w d=>?_);refine gc (zer nm z h hr s0 h0 x1 us hu K hok hf D hT) ?_;refine gd ?_ ?_<;>intro v1
 ·exact absurd rfl v1
 apply yf;apply ye;apply yc;refine yo ?_;apply kX;refine y9 [1,2,4,5,6,8,35,36] (λk zz=>(37,iv (k:Int))::zz) [2,4,5,8] (λ_ zz=>zz) D.length (λk hk=>?_);refine gd ?_ ?_<;>intro h9
 ·have H:=@getX _ D k aa;obtain⟨d,hd,h8⟩:=H;refine gd ?_ ?_<;>intro v0
  ·exact absurd v0 (hD d (j6 hd))
  refine gq ?_;refine yr (k+1) (hI:=kW)
 ·refine gc (zfe nm z h hr hok hl hf D (us.map tq) hT) ?_;refine gd ?_ ?_<;>intro k9
  ·exact absurd rfl k9
  refine gc (zjR nm z h hr hok hl) ?_;refine bP (zaH (k:=59) (λi:Int=>iv i) (λi:Int=>iv i)) rfl rfl ?_;refine yk ?_;apply ye;apply yc;refine yo ?_;apply kX;have j0:[]=ofM (ntI z z.length) (nuR us.length) 0:=by unfold ofM;rfl
  refine y9 [2,4,5,6,8,11,14,60,61] (λk zz=>(62,iv (k:Int))::zz) [2,4,5,8] (λk zz=>(59,.mpb (λi:Int=>iv i) (λi:Int=>iv i) (ofM (ntI z z.length) (nuR us.length) k))::zz) us.length (λk hk=>?_);refine gd ?_ ?_<;>intro h5
  ·have H:=@getX _ (ntI z z.length) k aa;obtain⟨i,hi,h4⟩:=H;have G:=zrr hi (zsB (n:=us.length) aa);refine gq ?_;refine yX (zal (venc:=λi:Int=>iv i) (k:Int) rfl rfl rfl rfl rfl ⟨Tryz.underlying125,_,Tryz.underlying3⟩ ⟨_,Tryz.underlying3,rfl⟩ (λ_ _=>rfl)) ?_;refine gq ?_;refine yr (k+1) (hI:=kW)
  ·obtain rfl:k=us.length:=aa
   apply bH;apply ye;refine yl (st':=⟨[(2,.ptr 2 0 0 0),(4,.ptr 4 0 0 0),(5,.ptr 5 0 0 0),(6,tmsA (atL us us.length)),(8,.ptr 8 0 0 0),(11,tmsA (us.map tq)),(14,.mp 59)],[(2,.box [.str nm,sgsA z] 26),(4,.box [.nils] 28),(5,.box [iv 0] 29),(8,.box [iv 0] 29),(59,.mpb (λi:Int=>iv i) (λi:Int=>iv i) (ofM (ntI z z.length) (nuR us.length) us.length))]⟩) kW ?_;apply yd;refine bP (zaH (k:=71) (λi:Int=>iv i) piA) rfl rfl ?_;refine gq ?_;refine zf (zjf nm z) ?_;apply bD;apply kX;have hZ:[]=ptM z 0:=by unfold ptM;rfl
   refine bV (sl:=[2,4,5,6,8,11,14,17]) (λj=>([.ptr 2 0 0 0,.ptr 4 0 0 0,.ptr 5 0 0 0,tmsA (atL us us.length),.ptr 8 0 0 0,tmsA (us.map tq),.mp 59,.ptr 17 0 0 0],[(2,.box [.str nm,sgsA z] 26),(4,.box [.nils] 28),(5,.box [iv 0] 29),(8,.box [iv 0] 29),(59,.mpb (λi:Int=>iv i) (λi:Int=>iv i) (ofM (ntI z z.length) (nuR us.length) us.length)),(17,.box [.mp 71] 126),(71,.mpb (λi:Int=>iv i) piA (ptM z j))])) (λj=>True) 900001 900002 rfl rfl ac (λj zs hj=>by obtain⟨_,rfl⟩:=zl3 hj;rfl) ((zhg nm z hl)) trivial rfl rfl ac (jU _) ah (λj zs hj=>by obtain⟨_,rfl⟩:=zl3 hj;rfl) (λ_=>rfl) rfl rfl (λl o us=>kW) (trivial) (λj zs hj hJ l ready busy rb vs g w hb hyB=>?_) (λhJ=>?_)
   ·have k8:=zl3 hj;obtain⟨k7,rfl⟩:=k8;obtain⟨s,hs⟩:∃s,z[j]? =some s:=⟨_,lgg k7⟩;have w2:z[(j:Int).toNat]? =some s:=ao hs
    apply yc;refine yk ?_;apply yd;refine yP ?_;refine bF ?_;apply bD;refine⟨rfl,rfl,?_⟩;apply kX;apply yc;(iterate 5 refine ya ?_);refine yP ?_;refine bF ?_;apply bD;apply ye;apply yc;(iterate 3 refine ya ?_);refine bI 3 ?_;refine yw ?_;(iterate 3 refine bE ?_);refine gf ?_ ?_<;>intro k6
    ·have G:=zDi hs k6.1;apply bH;refine⟨[.ptr 2 0 0 0,.ptr 4 0 0 0,.ptr 5 0 0 0,tmsA (atL us us.length),.ptr 8 0 0 0,tmsA (us.map tq),.mp 59,.ptr 17 0 0 0],[(2,.box [.str nm,sgsA z] 26),(4,.box [.nils] 28),(5,.box [iv 0] 29),(8,.box [iv 0] 29),(59,.mpb (λi:Int=>iv i) (λi:Int=>iv i) (ofM (ntI z z.length) (nuR us.length) us.length)),(17,.box [.mp 71] 126),(71,.mpb (λi:Int=>iv i) piA (ptM z (j+1)))],kW,rfl,trivial⟩
    have xT:s.Kind=1:=by have:=(h.at hs).2;omega
    have G:=zDh hs xT;have hc:=x0 j s hs xT;have hP:Fn prog 39 [.agg [iv (sfF z (j+1)).c,iv (sfF z (j+1)).n],iv (sfF z (j+1)).k,iv s.Place,iv s.Acc] (.tup [piA (clN s.Place),iv 0]):=by rw[hc.1,hc.2.1];exact zlB s.Place hc.2.2
    refine gd ?_ ?_<;>intro v9
    ·(rw[(x0 j s hs xT).1]at v9;cases v9)
    refine gq ?_;refine y4 [92,93,94,95,96,97,98,99,100,101,102,103,104,105] [0,0,0,4,0,16,0,64,0,256,1020,2044,4092,4092,8191,32767] mo ?_;(iterate 10 refine yb ?_);refine yI hP ?_;(iterate 3 refine yb ?_);refine zar 13 ⟨[(8,.ptr 8 0 0 0)],[(900002,.hold vs [.ptr 2 0 0 0,.ptr 4 0 0 0,.ptr 5 0 0 0,tmsA (atL us us.length),.ptr 8 0 0 0,tmsA (us.map tq),.mp 59,.ptr 17 0 0 0]),(900001,.obj l busy),(2,.box [.str nm,sgsA z] 26),(4,.box [.nils] 28),(5,.box [iv 0] 29),(8,.box [iv 0] 29),(59,.mpb (λi:Int=>iv i) (λi:Int=>iv i) (ofM (ntI z z.length) (nuR us.length) us.length)),(17,.box [.mp 71] 126),(71,.mpb (λi:Int=>iv i) piA (ptM z (j+1)))]⟩ (λQ hQ=>?_) (λQ hQ=>?_) ?_
    ·refine yX (zal (venc:=piA) (clN s.Place) rfl rfl rfl rfl rfl ⟨Tryz.underlying126,_,Tryz.underlying3⟩ ⟨_,Tryz.underlying3,rfl⟩ (λ_ _=>rfl)) ?_;refine bF ?_;exact yY kW hQ
    ·refine yX (zal (venc:=piA) (clN s.Place) rfl rfl rfl rfl rfl ⟨Tryz.underlying126,_,Tryz.underlying3⟩ ⟨_,Tryz.underlying3,rfl⟩ (λ_ _=>rfl)) ?_;refine ya ?_;refine bF ?_;exact yY kW hQ
    refine gd ?_ ?_<;>intro k5
    ·exact absurd rfl k5
    apply yf;refine⟨[.ptr 2 0 0 0,.ptr 4 0 0 0,.ptr 5 0 0 0,tmsA (atL us us.length),.ptr 8 0 0 0,tmsA (us.map tq),.mp 59,.ptr 17 0 0 0],[(2,.box [.str nm,sgsA z] 26),(4,.box [.nils] 28),(5,.box [iv 0] 29),(8,.box [iv 0] 29),(59,.mpb (λi:Int=>iv i) (λi:Int=>iv i) (ofM (ntI z z.length) (nuR us.length) us.length)),(17,.box [.mp 71] 126),(71,.mpb (λi:Int=>iv i) piA (ptM z (j+1)))],kW,rfl,trivial⟩
   rw[v3];refine gc (zlp nm z h hr hok s0 h0 x1) ?_;refine gd ?_ ?_<;>intro k4
   ·exact absurd rfl k4
   apply yf;apply yc;refine yk ?_;(iterate 2 apply ye);refine yl (yz evE 62 10 22 40 rfl rfl) ?_;apply yd;refine yo ?_;apply kX;have hY:[]=(evL (voP z us)).take 0:=ah
   refine y9 [2,4,5,6,8,11,14,17,22,117,118] (λk zz=>(119,iv (k:Int))::zz) [2,4,5,8,59,17,71] (λk zz=>(40,.row evE ((evL (voP z us)).take k) 62 10)::zz) us.length (λk hk=>?_);refine gd ?_ ?_<;>intro hX
   ·obtain⟨i,hi⟩:∃i,(ntI z z.length)[k]? =some i:=⟨_,lgg aa⟩;have k3:=zn0 hi;obtain⟨n,s,k2,hs,htm⟩:=k3;subst k2;obtain⟨u,v8⟩:∃u,us[k]? =some u:=⟨_,lgg aa⟩;obtain⟨x,hp1,x2,j4⟩:∃x:Pl,((ntI z z.length).map λi=>(⟨i,0⟩:Pl))[(k:Int).toNat]? =some x/\x.S=(n:Int)/\x.Ps=0:=⟨⟨(n:Int),0⟩,by rw[jN,j9,hi];rfl,rfl,rfl⟩;rw[←x2]at hi;have ht2:(us.map tq)[(k:Int).toNat]? =some (tq u):=by rw[jN,j9,v8];rfl
    have ha2:(atL us us.length)[(k:Int).toNat]? =some (tq (pf us k)):=by rw[jN];exact zDk aa
    have w2:z[x.S.toNat]? =some s:=by rw[x2,jN];exact hs
    have j3:=(j5.1 hs).1;have j2:=zlm (zxa z _) (T:=nuR us.length) (by rw[v4,K]) us.length aa k aa x.S (k:Int) hi (zsB aa)
    have j1:(mget x.S (ptM z z.length)).getD ⟨0,0,0⟩=ptS s:=by
     rw[x2,zpw hs z.length (jG _)];unfold ptS;by_cases c:s.Kind=1<;>simp[c,j3]
    have G:(evL (voP z us)).take k++[⟨tq (pf us k),tq u,ptS s,decide (s.Kind=2),x.S,x.Ps⟩]=(evL (voP z us)).take (k+1):=by rw[j4];exact zDj K v8 hi w2
    have htl:((evL (voP z us)).take k).length<=400:=by rw[jO];omega
    refine gq ?_;refine y4 [124,125,126,127,128,129,130,131,132,133,134,135,136,137,138,139,140,141,142,143,144,145,146,147,148,149,150,151,152,153] [0,0,0,6,14,0,0,0,128,448,992,2016,0,0,8192,28672,0,65536,0,262144,983040,2031616,4128768,8323072,0,16777216,0,67108864,268435454,536870910,1073741823,2147483647] mo ?_;(iterate 9 refine yb ?_);refine ChM.step rfl rfl rfl (bA (zql j2 rfl rfl rfl Tryz.underlying125 Tryz.underlying3 ze3)) rfl ?_;(iterate 5 refine yb ?_);refine ChM.step rfl rfl rfl (bA (zqm j1 rfl rfl rfl Tryz.underlying126 Tryz.underlying3 ze60)) rfl ?_;(iterate 13 refine yb ?_);refine ChM.step rfl rfl rfl (zx (k:=153) (enc:=evE) (l:=[⟨tq (pf us k),tq u,ptS s,decide (s.Kind=2),x.S,x.Ps⟩]) sl28 ty62 ze62 ac rfl rfl rfl rfl ac ac (λ_=>rfl) rfl) rfl ?_;refine yD ?_;refine gq ?_;refine yr (k+1) (hI:=kW)
   ·obtain rfl:k=us.length:=aa
    have hE:(evL (voP z us)).take us.length=evL (voP z us):=by rw[←v2,jR]
    apply bH;apply yc;refine ya ?_;(iterate 2 refine bF ?_);apply bD;refine bC ?_;refine yi (kY (k:=40) rfl) ?_;refine bJ (.many ac (.cons (.cellS rfl rfl rfl ty28 (kZ ?_)) (.cons (.cellS rfl rfl rfl ty29 (kZ ?_)) .nil)));all_goals(first|rfl|exact jA (λz=>evsA z) hE)
def zjg(nm:ByteArray)(z:List Sg)(h:PtK nm z)(hr:NoR z)(s0:Sg)(h0:z[0]? =some s0)(Q:tmd s0=false)(us:List Int)(hu:UtK us)(K:us.length=(ntI z z.length).length)(hok:ScOk z)(hf:Fn prog 65 [.agg [.str nm,sgsA z]] (.tup [tmsA (faL z z.length),iv 0]))(hT:TfK z (rpV z).Durs (us.map tq))(H:∀(k:Nat)(s:Sg),z[k]? =some s->s.Kind=1->sfF z (k+1)=⟨0,3,true,0⟩/\s.Acc=0/\-4<=s.Place/\s.Place<=12)(hD:∀d∈(rpV z).Durs,¬d.N=0)(hE:(rsK (rusV z) 0).1=0):Fn prog 6 [.agg [.str nm,sgsA z]] (.tup [evsA (evL (voP z us)),.agg [iv 0,iv 0]]):=by
 refine bB func6 ntmps6 (λg w d=>?_);refine gc (zdC nm z h hr hok) ?_;refine gd ?_ ?_<;>intro G
 ·exact absurd hE G
 refine gc (zn1 nm z h hr s0 h0 Q us hu K hok hf (rpV z).Durs hT H hD) ?_;refine bJ (.many ac (.cons (.tmp rfl (kZ ?_)) (.cons (.cellA rfl rfl rfl rfl ty31 (kZ ?_)) .nil)));all_goals exact zR
def zjh(nm:ByteArray)(z:List Sg)(h:PtK nm z)(hr:NoR z)(hok:ScOk z)(hE:¬(rsK (rusV z) 0).1=0):Fn prog 6 [.agg [.str nm,sgsA z]] (.tup [.nils,.agg [iv (rsK (rusV z) 0).1,iv (rsK (rusV z) 0).2]]):=by
 refine bB func6 ntmps6 (λg w d=>?_);refine gc (zdC nm z h hr hok) ?_;refine gd ?_ ?_<;>intro Q
 ·apply ye;refine y4 [2,16] [0,0,3] mo ?_;iterate 2 refine yb ?_
  refine yD ?_;refine gq ?_;refine bJ (.many ac (.cons (.tmp rfl (kZ ?_)) (.cons (.cellA rfl rfl rfl rfl ty31 (kZ ?_)) .nil)));all_goals exact zR
 exact absurd Q hE
end
end
section
attribute [local irreducible] Pur yy yu Ex X LeV LeB FnO It yA
def zn2(x y:Nat)(hx:x<18446744073709551616)(H:y<18446744073709551616):Fn prog 74 [.int .u64 (x:Int),.int .u64 (y:Int)] (.tup [.int .u64 ((x*y/18446744073709551616:Nat):Int),.int .u64 ((x*y%18446744073709551616:Nat):Int)]):=by
 refine⟨ae,rfl,λg w args K hr=>?_⟩;obtain⟨hl,Q⟩:=hr
 have e:args=[.int .u64 (x:Int),.int .u64 (y:Int)]:=by
  match args,hl with
  |[a,b],_=>
   rw[yK (Q 0 _ a rfl rfl),yK (Q 1 _ b rfl rfl)]
 subst e;refine Calls.mono (Tryz.bits_Mul x y hx H w) ?_
 rintro e w'⟨rfl,rfl⟩
 refine⟨_,g,rfl,.tup _ [.int .u64 ((x*y/18446744073709551616:Nat):Int),.int .u64 ((x*y%18446744073709551616:Nat):Int)] rfl (λj c v N Q=>?_),Add.refl _ g _,K⟩;rcases j with _|_|j
 ·simp at N Q;subst N;subst Q;exact .int _ _
 ·simp at N Q;subst N;subst Q;exact .int _ _
 ·simp at N
attribute [local irreducible] Fn
def hzS:∀(I:Im)(j:Nat)c,(intE 0)[j]? =some c->RV I noNames c (.int .i64 0):=λI j c h=>by
 cases j with
 |zero=>simp[intE]at h;subst h;exact .int _ _
 |succ j=>simp[intE]at h
attribute [local irreducible] zbN mulV mulE y5
end
section
attribute [local irreducible] zbN mulV mulE subV subE
end
section
attribute [local irreducible] zbN mulV tfx
end
section
end
section
variable{L L':List Tm}{M:List Int}{c:Int}{m:Mn}{t:Tm}{v:Int}
def ls1(u:Tm)(L:List Tm):List Tm:=(L.filter λt=>decide (0<cmpV t u)).map λt=>subV t u
def duS(u:Tm)(k v:Int)(L:List Tm):List Tm:=L++((if v<=k then ls1 u L else[])++((if v<k then ls1 u (ls1 u L)else[])++(if v=k+1 then[addV u u]else[])))
def duF(m:Mn)(v:Int):List Int->List Tm->List Tm
 |[],L=>L
 |k::r,L=>duF m v r (duS (unT m k) k v L)
def zji{u:Tm}(h:∀t∈L,t∈L'):∀t∈ls1 u L,t∈ls1 u L':=λt ht=>by
 unfold ls1 at ht⊢;obtain⟨x,hx,rfl⟩:=jS.1 ht;rw[wG]at hx;exact jS.2 ⟨x,wG.2 ⟨h x hx.1,hx.2⟩,rfl⟩
def zn3{u:Tm}(h:t∈L)(Q:0<cmpV t u):subV t u∈ls1 u L:=jS.2 ⟨t,wG.2 ⟨h,wD Q⟩,rfl⟩
def zsC{u:Tm}{k:Int}(h:∀t∈L,t∈L'):∀t∈duS u k v L,t∈duS u k v L':=λt ht=>by
 unfold duS at ht⊢;simp only[w9]at ht⊢;rcases ht with ht|ht|ht|ht
 ·exact .inl (h t ht)
 ·refine .inr (.inl ?_);split at ht
  ·rename_i Q;rw[j7 Q];exact zji h t ht
  ·simp at ht
 ·refine .inr (.inr (.inl ?_));split at ht
  ·rename_i Q;rw[j7 Q];exact zji (zji h) t ht
  ·simp at ht
 ·exact .inr (.inr (.inr ht))
def zmU{m:Mn}{v:Int}:∀(L:List Int){A B:List Tm},(∀t∈A,t∈B)->∀t∈duF m v L A,t∈duF m v L B
 |[],A,B,h=>h
 |k::r,A,B,h=>zmU r (zsC h)
def zDl{u:Tm}{k:Int}:t∈duS u k v [t]:=by unfold duS;simp
def zxC{u:Tm}{k:Int}(Q:v<=k)(N:0<cmpV t u):subV t u∈duS u k v [t]:=by
 unfold duS;rw[j7 Q];exact w9.2 (.inr (w9.2 (.inl (zn3 ah N))))
def zDm{u:Tm}{k:Int}(Q:v<k)(N:0<cmpV t u)(K:0<cmpV (subV t u) u):subV (subV t u) u∈duS u k v [t]:=by
 unfold duS;rw[j7 Q];exact w9.2 (.inr (w9.2 (.inr (w9.2 (.inl (zn3 (zn3 ah N) K))))))
def zDn{u:Tm}{k:Int}(Q:v=k+1):addV u u∈duS u k v [t]:=by
 unfold duS;rw[j7 Q];simp
structure DuJ(u:Tm)(k:Int)(l:List Ite)(S:List Sgm)(n:Nat)(st:List Ite×List (Int×Bool)):Prop where
 fx:∀i:Int,0<=i->i<l.length->(itg l i).Fixed=true->(itg st.1 i).Dur=(itg l i).Dur
 du:∀i:Int,0<=i->i<l.length->(itg st.1 i).Dur∈duS u k (itg l i).Value [(itg l i).Dur]
 lf:∀s,S[n]? =some s->0<=s.Left->(itg st.1 s.Left).Dur=(itg l s.Left).Dur\/((mget s.Left st.2).getD false=true/\0<cmpV (itg l s.Left).Dur u/\(itg st.1 s.Left).Dur=subV (itg l s.Left).Dur u)
def zuW{u:Tm}{s:Sgm}{l:List Ite}{i:Int}(hi:0<=i)(H:c=1\/c=3->0<=s.Left/\s.Left<l.length)(N:c=2\/c=3->0<=s.Right/\s.Right<l.length)(G:c=4->1<=s.To/\s.To<=l.length)(xT:¬s.Left=s.Right\/¬c=3):
 (itg (chN u s c l) i).Dur=if(c=1\/c=3)/\i=s.Left then subV (itg l i).Dur u else if(c=2\/c=3)/\i=s.Right then subV (itg l i).Dur u else if c=4/\i=s.To-1 then addV (itg l i).Dur (itg l i).Dur else(itg l i).Dur:=by
 have nL:∀{a b:Prop},¬a->¬(a/\b):=λh x=>h x.1
 have nR:∀{a b:Prop},¬b->¬(a/\b):=λh x=>h x.2
 unfold chN;simp only;by_cases K:c=4
 ·have n1:¬(c=1\/c=3):=aa
  have n2:¬(c=2\/c=3):=aa
  have ht:=G K;rw[j8 n2,j8 n1,j7 K,j8 (nL (b:=i=s.Left) n1),j8 (nL (b:=i=s.Right) n2),zbd aa hi aa];by_cases e:i=s.To-1
  ·rw[j7 e.symm,j7 ⟨K,e⟩,e];rfl
  ·rw[j8 (λh=>e h.symm),j8 (nR (a:=c=4) e)]
 ·rw[j8 K,j8 (nL (b:=i=s.To-1) K)];by_cases h1:c=1\/c=3
  ·obtain⟨a1,a2⟩:=H h1;by_cases Q:c=2\/c=3
   ·obtain⟨b1,b2⟩:=N Q;have hn:¬s.Left=s.Right:=xT.resolve_right aa;rw[j7 Q,j7 h1,zbd b1 hi (by rw[zeL];exact b2)];by_cases e:i=s.Right
    ·have e':¬i=s.Left:=λh=>hn (h.symm.trans e)
     rw[j7 e.symm,zbd a1 b1 a2,j8 hn,j8 (nR (a:=c=1\/c=3) e'),j7 ⟨Q,e⟩,e];rfl
    ·rw[j8 (λh=>e h.symm),zbd a1 hi a2,j8 (nR (a:=c=2\/c=3) e)];by_cases f:i=s.Left
     ·rw[j7 f.symm,j7 ⟨h1,f⟩,f];rfl
     ·rw[j8 (λh=>f h.symm),j8 (nR (a:=c=1\/c=3) f)]
   ·rw[j8 Q,j7 h1,zbd a1 hi a2,j8 (nL (b:=i=s.Right) Q)];by_cases f:i=s.Left
    ·rw[j7 f.symm,j7 ⟨h1,f⟩,f];rfl
    ·rw[j8 (λh=>f h.symm),j8 (nR (a:=c=1\/c=3) f)]
  ·rw[j8 (nL (b:=i=s.Left) h1)];by_cases Q:c=2\/c=3
   ·obtain⟨b1,b2⟩:=N Q;rw[j7 Q,j8 h1,zbd b1 hi b2];by_cases e:i=s.Right
    ·rw[j7 e.symm,j7 ⟨Q,e⟩,e];rfl
    ·rw[j8 (λh=>e h.symm),j8 (nR (a:=c=2\/c=3) e)]
   ·rw[j8 Q,j8 h1,j8 (nL (b:=i=s.Right) Q)]
def zsD{u:Tm}{k:Int}{S:List Sgm}{l:List Ite}{M:List Int}(hS:SgsOk k l S):∀n,n<=S.length->okJ u k S l M n=true->DuJ u k l S n (stK u S l M n)
 |0,_,_=>by
  refine⟨λi _ _ _=>rfl,λi _ _=>zDl,λs hs h0=>?_⟩;have:=hS.st s hs;omega
 |n+1,hn,hk=>by
  have hk:(okJ u k S l M n&&decide (M.getD n 0∈alK u k S l M n))=true:=hk;simp only[jE,w8]at hk;have ih:=zsD hS n aa hk.1;have sk:=zlb hS n aa hk.1;rw[zmo];have hs:S[n]? =some S[n]:=lgg aa;have hd:S.getD n default=S[n]:=by rw[jB,hs];rfl
  have H:=hS.all _ (j6 hs);unfold alK at hk;rw[hd]at hk⊢;generalize S[n]=s at*
  generalize stK u S l M n=st at*
  generalize M.getD n 0=c at*
  have hc:=zla H.ft hk.2;have x2:=hk.2;unfold alQ at x2;have v0:=sk.len;have f0:=H.f0;have ft:=H.ft;have tl:=H.tl
  have xT:(c=1\/c=3)->0<=s.Left/\s.Left<l.length/\s.Left<s.From/\(itg l s.Left).Value<=k/\(itg l s.Left).Fixed=false:=λh=>by
   have:=hc.lf h;rcases H.lf with N|⟨N,h3,h4,-,h5⟩
   ·omega
   ·exact⟨N,aa,aa,h4,h5⟩
  have x0:(c=2\/c=3)->0<=s.Right/\s.Right<l.length/\s.Right=s.To/\(itg l s.Right).Value<=k/\(itg l s.Right).Fixed=false:=λh=>by
   have:=hc.rt h;rcases H.rt with N|⟨N,h3,h4,-,h5⟩
   ·omega
   ·exact⟨aa,aa,N,h4,h5⟩
  have w2:c=4->s.From<s.To:=hc.al
  have v4:(c=1\/c=3)->poQ u k st.1 st.2 s=true:=λhh=>by
   rcases zid x2 with⟨h1,_⟩|⟨h1,N,_⟩|⟨h1,N,_⟩|⟨h1,N,h3,_⟩|⟨h1,N,_⟩
   ·omega
   ·exact N
   ·omega
   ·exact N
   ·omega
  have v9:(c=2\/c=3)->anQ u k st.1 s=true:=λhh=>by
   rcases zid x2 with⟨h1,_⟩|⟨h1,N,_⟩|⟨h1,N,_⟩|⟨h1,N,h3,_⟩|⟨h1,N,_⟩
   ·omega
   ·omega
   ·exact N
   ·exact h3
   ·omega
  have v3:c=4->atQ u k st.1 s=true:=λhh=>by
   rcases zid x2 with⟨h1,_⟩|⟨h1,N,_⟩|⟨h1,N,_⟩|⟨h1,N,h3,_⟩|⟨h1,N,_⟩
   ·omega
   ·omega
   ·omega
   ·omega
   ·exact N
  have x1:=λ(i:Int)(hi:0<=i)=>zuW (u:=u) (s:=s) (c:=c) (l:=st.1) hi (λh=>by have:=xT h;omega) (λh=>by have:=x0 h;omega) (λh=>by have:=w2 h;omega)
   (by by_cases h3:c=3
       ·have h5:=xT (.inr h3);have h6:=x0 (.inr h3);exact .inl aa
       ·exact .inr h3)
  have G:=sk.rest s hs
  have key:∀i:Int,0<=i->i<l.length->((itg l i).Fixed=true->(itg (chN u s c st.1) i).Dur=(itg l i).Dur)/\(itg (chN u s c st.1) i).Dur∈duS u k (itg l i).Value [(itg l i).Dur]:=λi hi v8=>by
   rw[x1 i hi];split
   ·rename_i h;obtain⟨h1,rfl⟩:=h;obtain⟨a1,a2,a3,a4,a5⟩:=xT h1;refine⟨λhf=>(by rw[a5]at hf;cases hf),?_⟩;have K:=v4 h1;unfold poQ at K;simp only[jE]at K;obtain⟨-,⟨v5,Q⟩,-⟩:=K;unfold lgQ at Q;rw[x8]at Q;rcases ih.lf s hs a1 with e|⟨e1,e2,e3⟩
    ·rw[e]at Q⊢;exact zxC a4 Q
    ·rw[e3]at Q⊢;rw[e1]at v5;have hv:(itg st.1 s.Left).Value<k:=ao v5
     rw[(sk.same s.Left a1).2.1]at hv;exact zDm hv e2 Q
   ·split
    ·rename_i h;obtain⟨h1,rfl⟩:=h;obtain⟨a1,a2,a3,a4,a5⟩:=x0 h1;refine⟨λhf=>(by rw[a5]at hf;cases hf),?_⟩;have K:=v9 h1;unfold anQ at K;simp only[jE]at K;obtain⟨-,-,Q,-⟩:=K;unfold lgQ at Q;rw[x8]at Q;have e:=(G s.Right aa).1;rw[e]at Q⊢;exact zxC a4 Q
    ·split
     ·rename_i h;obtain⟨h1,rfl⟩:=h;have K:=v3 h1;have ht:=w2 h1;unfold atQ ntQ at K;have e:=(G (s.To-1) aa).1;rw[e]at K⊢;simp only[jE,w8,wP]at K;obtain⟨-,⟨⟨-,v2⟩,hv⟩,Q⟩:=And.intro K.1 (And.intro (And.intro (And.intro K.2.1.1.1.1 K.2.1.1.1.2) K.2.1.1.2) K.2.1.2);refine⟨λhf=>(by rw[v2]at hf;cases hf),?_⟩;rw[Q];exact zDn hv
     ·exact⟨ih.fx i hi v8,ih.du i hi v8⟩
  refine⟨λi h1 N=>(key i h1 N).1,λi h1 N=>(key i h1 N).2,λt ht h0=>?_⟩;obtain⟨n1,n2,n3⟩:=hS.nx n s t hs ht;have v1:0<=s.Right:=aa
  have k9:s.Right=s.To:=by rcases H.rt with h|h<;>omega
  have k8:s.Right<l.length:=by rcases H.rt with h|h<;>omega
  have e:=(G s.Right aa).1;rw[n1];show(itg (chN u s c st.1) s.Right).Dur=_\/((mget s.Right (chL s c st.2)).getD false=true/\_);rw[x1 s.Right v1];by_cases N:c=2\/c=3
  ·refine .inr ⟨?_,?_,?_⟩
   ·unfold chL;rw[j7 N,ziI,j7 rfl];rfl
   ·have K:=v9 N;unfold anQ at K;simp only[jE]at K;obtain⟨-,-,Q,-⟩:=K;unfold lgQ at Q;rw[x8,e]at Q;exact Q
   ·rw[e];rw[j8 (λh=>by have:=xT h.1;omega),j7 ⟨N,rfl⟩]
  ·refine .inl ?_;rw[e,j8 (λh=>by have:=xT h.1;omega),j8 (λh=>N h.1),j8 (λh=>by omega)]
def zz8{k:Int}{l:List Ite}(h:apE m k l M=0):(apV m k l M).length=l.length/\∀i:Int,0<=i->i<l.length->sameI (itg (apV m k l M) i) (itg l i)/\((itg l i).Fixed=true->(itg (apV m k l M) i).Dur=(itg l i).Dur)/\(itg (apV m k l M) i).Dur∈duS (unT m k) k (itg l i).Value [(itg l i).Dur]:=by
 obtain⟨h1,K,Q⟩:=zrm h;have N:=zdB h1;have i1:=zsD N M.length aa Q;have i2:=zlb N M.length aa Q;unfold apV;rw[j7 h];exact⟨i2.len,λi hi hl=>⟨i2.same i hi,i1.fx i hi hl,i1.du i hi hl⟩⟩
end
section
def zsE{m:Mn}:∀(L:List Int)(I:List Ite)(C:List Int),(lvF m L I C).2.2=0->(lvF m L I C).2.1.length=I.length/\∀i:Int,0<=i->i<I.length->sameI (itg (lvF m L I C).2.1 i) (itg I i)/\((itg I i).Fixed=true->(itg (lvF m L I C).2.1 i).Dur=(itg I i).Dur)/\(itg (lvF m L I C).2.1 i).Dur∈duF m (itg I i).Value L [(itg I i).Dur]
 |[],I,C,h=>⟨rfl,λi _ _=>⟨zam _,λ_=>rfl,by unfold duF;simp[lvF]⟩⟩
 |k::r,I,C,h=>by
  rw[lvF]at h⊢;split at h
  ·rename_i Q;rw[j7 Q];obtain⟨a1,a2⟩:=zz8 (zmA Q);obtain⟨b1,b2⟩:=zsE r _ _ h;refine⟨b1.trans a1,λi hi hl=>?_⟩;obtain⟨c1,c2,c3⟩:=a2 i hi hl;obtain⟨d1,d2,d3⟩:=b2 i hi (by rw[a1];exact hl);refine⟨d1.tr c1,λhf=>(d2 (c1.2.2.2.2.1.trans hf)).trans (c2 hf),?_⟩;rw[c1.2.1]at d3;unfold duF;exact zmU r (λt ht=>by rw[w6]at ht;rw[ht];exact c3) _ d3
  ·rename_i Q;exact absurd h Q
end
section
variable{T:List Sg}{d:Bool}{i:Int}{m:Mn}{nm:ByteArray}{x:Sg}{z:List Sg}
def RdS(x:Sg):Prop:=(∃v p,x=ntR v p/\(3<=v/\v<=6)/\-4<=p/\p<=12)\/(∃v,x=rtR v/\3<=v/\v<=6)\/x=dtR
def RdT.s(h:RdT T d):∀x∈T,RdS x:=by
 induction h with
 |zz=>simp
 |nn v p b _ Q N ih=>exactλx hx=>(w9.1 hx).elim (ih x) λe=>.inl ⟨v,p,w6.1 e,Q,N⟩
 |rr v _ Q ih=>exactλx hx=>(w9.1 hx).elim (ih x) λe=>.inr (.inl ⟨v,w6.1 e,Q⟩)
 |dd _ ih=>exactλx hx=>(w9.1 hx).elim (ih x) λe=>.inr (.inr (w6.1 e))
def RdS.ok(h:RdS x):(SgK x/\¬x.Kind=4)/\(¬x.Kind=9/\¬x.Kind=10)/\(1<=x.Kind/\x.Kind<=3)/\x.Color=false:=by
 rcases h with⟨v,p,rfl,h1,N⟩|⟨v,rfl,h1⟩|rfl
 ·have Q:1<=v/\v<=8:=aa
  refine⟨⟨⟨?_,?_,?_,⟨?_,?_,?_,?_,?_,?_,?_,?_⟩,?_⟩,?_⟩,?_,?_,rfl⟩<;>simp[ktV,ufS,ntR,Q,N]
 ·have Q:1<=v/\v<=8:=aa
  refine⟨⟨⟨?_,?_,?_,⟨?_,?_,?_,?_,?_,?_,?_,?_⟩,?_⟩,?_⟩,?_,?_,rfl⟩<;>simp[ktV,ufS,rtR,Q]
 ·refine⟨⟨⟨?_,?_,?_,⟨?_,?_,?_,?_,?_,?_,?_,?_⟩,?_⟩,?_⟩,?_,?_,rfl⟩<;>simp[ktV,ufS,dtR]
def zpx:(SgK (cfS 0 3)/\¬(cfS 0 3).Kind=4)/\(¬(cfS 0 3).Kind=9/\¬(cfS 0 3).Kind=10):=by
 refine⟨⟨⟨?_,?_,?_,⟨?_,?_,?_,?_,?_,?_,?_,?_⟩,?_⟩,?_⟩,?_⟩<;>simp[ktV,ufS,cfS]
def RdM.c(h:RdM m):ckM m=0:=by rcases h with rfl|rfl|rfl<;>rfl
def zsF(h:RdM m)(b:Bool):(SgK (mnS m b)/\¬(mnS m b).Kind=4)/\(¬(mnS m b).Kind=9/\¬(mnS m b).Kind=10):=by
 have Q:=h.c;refine⟨⟨⟨?_,?_,?_,⟨?_,?_,?_,?_,?_,?_,?_,?_⟩,?_⟩,?_⟩,?_⟩<;>simp[ktV,ufS,mnS,Q]
def RdP.ok(h:RdP z):∀x∈z,(SgK x/\¬x.Kind=4)/\(¬x.Kind=9/\¬x.Kind=10)/\x.Color=false:=λx hx=>by
 rcases h with rfl|⟨m,b,T,d,rfl,h1,Q,N⟩
 ·rw[w6.1 hx];exact⟨zpx.1,zpx.2,rfl⟩
 ·rcases jW.1 hx with rfl|hx
  ·exact⟨zpx.1,zpx.2,rfl⟩
  ·rcases jW.1 hx with rfl|hx
   ·exact⟨(zsF h1 b).1,(zsF h1 b).2,rfl⟩
   ·have:=(Q.s x hx).ok;exact⟨this.1,this.2.1,this.2.2.2⟩
def RdP.l(h:RdP z):z.length<=57:=by
 rcases h with rfl|⟨m,b,T,d,rfl,h1,Q,N⟩
 ·simp
 ·simp only[w5];omega
def RdP.pt(h:RdP z)(hn:nmQ (bsB nm)=true)(hs:nm.size<=1000000):PtK nm z:=⟨hs,hn,by have:=h.l;omega,λx hx=>⟨(h.ok x hx).1.1,(h.ok x hx).1.2⟩⟩
def RdP.r(h:RdP z):NoR z:=λx hx=>(h.ok x hx).2.1
def RdT.ne(h:RdT T true):T≠[]:=by
 cases h with
 |nn v p b _ _ _=>simp
def RdT.h0(h:RdT T d):∀s,T[0]? =some s->clS s.Kind=1:=by
 have key:∀{T:List Sg}{x:Sg},(∀s,T[0]? =some s->clS s.Kind=1)->(T=[]->clS x.Kind=1)->∀s,(T++[x])[0]? =some s->clS s.Kind=1:=λ{T x}h1 Q s hs=>by
  cases T with
  |nil=>simp at hs;subst hs;exact Q rfl
  |cons a r=>simp at hs;subst hs;exact h1 a rfl
 induction h with
 |zz=>simp
 |nn v p b _ _ _ ih=>exact key ih λ_=>rfl
 |rr v _ _ ih=>exact key ih λ_=>rfl
 |dd h1 ih=>exact key ih λe=>absurd e h1.ne
def zDo(h:RdS x):clS x.Kind=1\/clS x.Kind=2:=by
 rcases h with⟨v,p,rfl,_⟩|⟨v,rfl,_⟩|rfl
 ·exact .inl rfl
 ·exact .inl rfl
 ·exact .inr rfl
def zsG{m:Mn}{b:Bool}{T:List Sg}{d:Bool}(h:RdT T d):∀j,j<=T.length->scS (cfS 0 3::mnS m b::T) (2+j)=⟨m,true,⟨if j=0 then-1 else 2,if j=0 then 0 else 2+(j:Int),m⟩,[]⟩
 |0,_=>rfl
 |j+1,K=>by
  have ih:=zsG (m:=m) (b:=b) h j aa;obtain⟨x,hx⟩:∃x,T[j]? =some x:=⟨_,lgg aa⟩;have Q:(cfS 0 3::mnS m b::T)[2+j]? =some x:=by rw[show 2+j=j+1+1 by omega,wJ,wJ];exact hx
  rw[show 2+(j+1)=2+j+1 by omega,znK Q,ih];have N:=zDo (h.s x (j6 hx));unfold zcy;by_cases e:j=0
  ·subst e;have h1:=h.h0 x hx;rw[j7 h1];rfl
  ·rcases N with c|c
   ·rw[j7 c];simp only[j8 e];simp;omega
   ·rw[j8 aa,j7 c];simp only[j8 e];simp;omega
def RdP.sc(h:RdP z):ScOk z:=by
 rcases h with rfl|⟨m,b,T,d,rfl,h1,N,K⟩
 ·intro k x hx
  match k,hx with
  |0,hx=>injection hx with hx;subst hx;exact⟨λe=>absurd e ac,λe=>absurd e ac,rfl⟩
  |k+1,hx=>simp at hx
 ·intro k x hx
  match k,hx with
  |0,hx=>injection hx with hx;subst hx;exact⟨λe=>absurd e ac,λe=>absurd e ac,rfl⟩
  |1,hx=>injection hx with hx;subst hx;exact⟨λe=>absurd e (show¬clS 5=1 by decide),λe=>absurd e (show¬clS 5=2 by decide),rfl⟩
  |j+2,hx=>
   have Q:T[j]? =some x:=hx;have H:=(j5.1 Q).1;rw[show j+2=2+j by omega,zsG N j aa];refine⟨λ_=>rfl,λc=>?_,(N.s x (j6 Q)).ok.2.2.2⟩;by_cases e:j=0
   ·subst e;have:=N.h0 x Q;omega
   ·dsimp only;rw[j8 e];decide
def RdS.n7(h:RdS x):¬x.Kind=7/\¬x.Kind=8:=by have:=h.ok.2.2.1;omega
def zxD{m:Mn}{b:Bool}{T:List Sg}{d:Bool}(h:RdT T d):∀j,j<=T.length->sfF (cfS 0 3::mnS m b::T) (2+j)=⟨0,3,true,0⟩
 |0,_=>rfl
 |j+1,N=>by
  have ih:=zxD (m:=m) (b:=b) h j aa;obtain⟨x,hx⟩:∃x,T[j]? =some x:=⟨_,lgg aa⟩;have Q:(cfS 0 3::mnS m b::T)[2+j]? =some x:=by rw[show 2+j=j+1+1 by omega,wJ,wJ];exact hx
  have hn:=(h.s x (j6 hx)).n7;rw[show 2+(j+1)=2+j+1 by omega,←zxB Q,ih];unfold sfO;rw[j8 hn.1,j8 hn.2]
theorem RdP.cl(h:RdP z):∀(k:Nat)(s:Sg),z[k]? =some s->s.Kind=1->sfF z (k+1)=⟨0,3,true,0⟩/\s.Acc=0/\-4<=s.Place/\s.Place<=12:=by
 rcases h with rfl|⟨m,b,T,d,rfl,h1,N,H⟩
 ·intro k x hx e
  match k,hx with
  |0,hx=>injection hx with hx;subst hx;cases e
  |k+1,hx=>simp at hx
 ·intro k x hx e
  match k,hx with
  |0,hx=>injection hx with hx;subst hx;cases e
  |1,hx=>injection hx with hx;subst hx;cases e
  |j+2,hx=>
   have Q:T[j]? =some x:=hx;have G:=(j5.1 Q).1;refine⟨by rw[show j+2+1=2+(j+1)by omega];exact zxD N (j+1) aa,?_⟩;rcases N.s x (j6 Q)with⟨v,p,rfl,_,K⟩|⟨v,rfl,_⟩|rfl
   ·exact⟨rfl,K⟩
   ·cases e
   ·cases e
theorem zsH{b:Bool}(h:RdT T d)(Q:T≠[]):scV (cfS 0 3::mnS m b::T)=[⟨2,2+(T.length:Int),m⟩]:=by
 have hl:0<T.length:=uZ.2 Q;unfold scV;rw[show(cfS 0 3::mnS m b::T).length=2+T.length by simp only[w5];omega,zsG h T.length (jG _),j8 (show¬T.length=0 by omega),j8 (show¬T.length=0 by omega),j7 (show(0:Int)<=2 by decide)];rfl
theorem zsI{m:Mn}{b:Bool}{T:List Sg}{d:Bool}(h:RdT T d):∀j,j<=T.length->rcK (cfS 0 3::mnS m b::T) 2 j=(T.take j,(List.range j).map λi=>((2+i:Nat):Int))
 |0,_=>rfl
 |j+1,N=>by
  have ih:=zsI (m:=m) (b:=b) h j aa;obtain⟨x,hx⟩:∃x,T[j]? =some x:=⟨_,lgg aa⟩;have Q:(cfS 0 3::mnS m b::T)[2+j]? =some x:=by rw[show 2+j=j+1+1 by omega,wJ,wJ];exact hx
  have K:=zDo (h.s x (j6 hx));rw[rcK,Q,ih];simp[jK,hx,wR];omega
def zxE{b:Bool}(h:RdT T d)(Q:T≠[]):rusV (cfS 0 3::mnS m b::T)=[⟨m,T⟩]:=by
 unfold rusV;rw[zsH h Q,wW,kE]
 have e1:rcV (cfS 0 3::mnS m b::T) ⟨2,2+(T.length:Int),m⟩=T:=by
  unfold rcV;dsimp only;rw[show(2+(T.length:Int)-2).toNat=T.length by omega,show(2:Int).toNat=2 from rfl,zsI h T.length (jG _),jR]
 rw[e1]
theorem zpy{b:Bool}(h:RdT T d)(Q:T≠[]):(rsK (rusV (cfS 0 3::mnS m b::T)) 0).1=rdE m T/\(rdE m T=0->(rpV (cfS 0 3::mnS m b::T)).Durs=(rdV m T).Durs):=by
 rw[zxE h Q]
 have e1:(rsK [(⟨m,T⟩:Ru)] 0).1=rdE m T:=by
  unfold rsK;split
  ·rename_i e;rw[show rdE m T=0 from e];rfl
  ·rfl
 refine⟨e1,λe=>?_⟩;unfold rpV;rw[zxE h Q,e1,j7 e];simp[joV,rsR]
def fcT(b:Bool):Tm:=if b=true then⟨1,2⟩else⟨1,1⟩
def ruU(b:Bool)(t:Tm):Int:=if b=true then t.N*16/t.D/2 else t.N*16/t.D
def tmQ(b:Bool)(t:Tm):Bool:=decide (mulE t (fcT b)=0)&&decide (mulV t (fcT b)=tq (ruU b t))&&decide (ckT t=0)&&decide (ruU b t%2=0)&&decide (1<=ruU b t)&&decide (ruU b t<=384)&&decide (¬t.N=0)
def rdB(m:Mn)(v:Int):List Tm:=[zbN m v].flatMap λz=>[mulV z ⟨3,2⟩,z]
def zuX:([true,false].all λb=>[(⟨2,2,2,2⟩:Mn),⟨2,2,3,2⟩,⟨2,2,2,3⟩].all λm=>[3,4,5,6].all λv=>(rdB m v).all λz=>(duF m v (perfL m) [z]).all (tmQ b))=true:=ae
structure TmQ(b:Bool)(t:Tm):Prop where
 e:mulE t (fcT b)=0
 v:mulV t (fcT b)=tq (ruU b t)
 c:ckT t=0
 h:ruU b t%2=0
 l:1<=ruU b t
 u:ruU b t<=384
 n:¬t.N=0
def zDp{b:Bool}{t:Tm}(h:tmQ b t=true):TmQ b t:=by
 unfold tmQ at h;simp only[jE,w8]at h;exact⟨h.1.1.1.1.1.1,h.1.1.1.1.1.2,h.1.1.1.1.2,h.1.1.1.2,h.1.1.2,h.1.2,h.2⟩
def RdS.v(h:RdS x)(h1:1<=x.Value):3<=x.Value/\x.Value<=6:=by
 rcases h with⟨v,p,rfl,Q,_⟩|⟨v,rfl,Q⟩|rfl
 ·exact Q
 ·exact Q
 ·exact absurd h1 (by show¬(1:Int)<=0;decide)
def zxF{l:List Sg}(h0:rdE m l=0):(rdV m l).Durs=(leI m (rdI m l)).map (·.Dur)/\ckD m l=0/\mkE m l (zae m l)=0/\(leI m (rdI m l)).length=(rdI m l).length/\∀i:Int,0<=i->i<(rdI m l).length->(itg (leI m (rdI m l)) i).Dur∈duF m (itg (rdI m l) i).Value (perfL m) [(itg (rdI m l) i).Dur]:=by
 have Q:ckD m l=0:=jY λh=>h ((zy8 h).1.symm.trans h0)
 have N:leE m (rdI m l)=0:=jY λh=>h ((zBG Q h).1.symm.trans h0)
 obtain⟨K,hI⟩:=zzc N
 have H:(lvF m (perfL m) (rdI m l) []).2.2=0:=by
  have:=N;unfold leE at this;rw[j7 K,j7 hI]at this;exact this
 have hJ:leI m (rdI m l)=(lvF m (perfL m) (rdI m l) []).2.1:=by unfold leI;rw[j7 N]
 obtain⟨j1,j2⟩:=zsE _ _ _ H;rw[←hJ]at j1 j2;exact⟨by rw[(zBH Q N).2],Q,zoL (zcD Q).1 Q,j1,λi hi hl=>(j2 i hi hl).2.2⟩
def zxG{l:List Sg}(h0:rdE m l=0):(rdV m l).Durs.length=ntN l l.length:=by
 obtain⟨a,-,c,e,-⟩:=zxF h0;rw[a,jD,e];exact zoQ c
def zsJ(hm:RdM m)(h:RdT T d)(h0:rdE m T=0)(q:Bool){t:Tm}(ht:t∈(rdV m T).Durs):TmQ q t:=by
 obtain⟨e,K,h1,j1,j2⟩:=zxF h0;rw[e]at ht;obtain⟨x,hx,rfl⟩:=jS.1 ht;obtain⟨i,hi⟩:=jL.1 hx;have H:=(j5.1 hi).1;obtain⟨y,N⟩:∃y,(rdI m T)[i]? =some y:=⟨_,lgg aa⟩;have a3:=j2 (i:Int) aa aa;rw[ziF hi,ziF N]at a3;have Q:(itmV m T (zae m T))[i]? =some y:=N;rw[zny h1]at Q;obtain⟨k,s,hk,hs,G,hn,rfl⟩:=zlg T.length Q;obtain⟨-,-,z,-,-,e3,-,-,-,v1,-,hz⟩:=zwT h1 hs G;have hr:=h.s s (j6 hs);have xT:=hr.v v1;rw[hn]at e3
 have hd:(itOf k s ((mkC m T (zae m T)).getD i 0) ((mkA m T (zae m T)).getD i false) ((duV m T).getD i ⟨0,0⟩)).Dur∈rdB m s.Value:=by
  rw[ztQ e3];unfold itOf rdB;rw[x4];refine⟨z,by simp[hz],?_⟩;dsimp only;split<;>simp
 refine zDp ?_;have k0:=jF.1 zuX q (by cases q<;>simp);have k1:=jF.1 k0 m (by rcases hm with rfl|rfl|rfl<;>simp)
 have k2:=jF.1 k1 s.Value (by
  have:s.Value=3\/s.Value=4\/s.Value=5\/s.Value=6:=aa
  simpa using this)
 exact jF.1 (jF.1 k2 _ hd) _ a3
def zxH{m:Mn}{b:Bool}{T:List Sg}{d:Bool}(h:RdT T d):∀j,j<=T.length->(ntI (cfS 0 3::mnS m b::T) (2+j)).length=ntN T j
 |0,_=>rfl
 |j+1,N=>by
  have ih:=zxH (m:=m) (b:=b) h j aa;obtain⟨x,hx⟩:∃x,T[j]? =some x:=⟨_,lgg aa⟩;have Q:(cfS 0 3::mnS m b::T)[2+j]? =some x:=by rw[show 2+j=j+1+1 by omega,wJ,wJ];exact hx
  have hk:=(h.s x (j6 hx)).ok.2.2.1;rw[ntN,hx,show 2+(j+1)=2+j+1 by omega];dsimp only;by_cases e:x.Kind=3
  ·have ht:tmd x=false:=by unfold tmd;rw[e];rfl
   rw[←zzz Q ht,j7 e];exact ih
  ·have ht:tmd x=true:=by
    have:x.Kind=1\/x.Kind=2:=aa
    unfold tmd;rcases this with c|c<;>rw[c]<;>rfl
   rw[←zzy Q ht,j8 e,jJ,ih];rfl
def zxI{m:Mn}{b:Bool}{T:List Sg}{d:Bool}(h:RdT T d):∀j,j<=T.length->faF (cfS 0 3::mnS m b::T) (2+j)=fcT b
 |0,_=>by cases b<;>rfl
 |j+1,N=>by
  have ih:=zxI (m:=m) (b:=b) h j aa;obtain⟨x,hx⟩:∃x,T[j]? =some x:=⟨_,lgg aa⟩;have Q:(cfS 0 3::mnS m b::T)[2+j]? =some x:=by rw[show 2+j=j+1+1 by omega,wJ,wJ];exact hx
  have hk:=(h.s x (j6 hx)).ok.2.2.1;rw[show 2+(j+1)=2+j+1 by omega,←zBQ Q,ih];unfold ovF;rw[j8 aa,j8 aa]
def zDq{l:List Sg}{k n:Nat}(h:(ntI l n)[k]? =some i):∃q:Nat,i=(q:Int)/\q<n/\tmd (l.getD q default)=true:=by
 unfold ntI at h;rw[j9]at h;obtain⟨q,Q,rfl⟩:=u0.1 h;have hm:=j6 Q;rw[wG,uV]at hm;exact⟨q,rfl,hm.1,hm.2⟩
def usR(b:Bool)(m:Mn)(T:List Sg):List Int:=(rdV m T).Durs.map (ruU b)
def zDr{b:Bool}(hm:RdM m)(h:RdT T d)(K:T≠[])(h0:rdE m T=0):TfK (cfS 0 3::mnS m b::T) (rpV (cfS 0 3::mnS m b::T)).Durs ((usR b m T).map tq):=by
 rw[(zpy h K).2 h0];have H:(cfS 0 3::mnS m b::T).length=2+T.length:=by simp only[w5];omega
 refine⟨by rw[H,zxH h T.length (jG _)];exact zxG h0,by unfold usR;simp,λk e i t hk hi ht=>?_⟩;obtain⟨q,rfl,G,Q⟩:=zDq hi
 have xT:2<=q:=by
  match q,Q with
  |0,Q=>cases Q
  |1,Q=>cases Q
  |q+2,_=>omega
 have N:=zsJ hm h h0 b (j6 hk);refine⟨aa,aa,fcT b,?_,N.e,?_,N.c⟩
 ·unfold faL;rw[jN,j9,uY G,wS,show q+1=2+(q-1)by omega,zxI h (q-1) aa]
 ·unfold usR at ht;rw[j9,j9,hk,wS,wS]at ht;injection ht with ht;rw[N.v];exact ht
end
end Go.Rse
namespace Go.Rse
open Go Go.Proofs Go.Shelf Go.Sort Go.Proofs.Tryz
variable{E:TypeId}{O:Owns}{P:Program}{args:List Value}{b:Nat}{cur:Array Value}{e:TypeId}{fr:Nat×Nat}{n:Nat}{os:Array Obj}{w:World}{xs':List Value}{ρ:Nat->Value}{τ:Ren}
def zpz:AV->Bool
 |.int _ _=>true
 |.bool _=>true
 |.str _=>true
 |.nils=>true
 |.nilf=>true
 |.sl _ _=>true
 |_=>false
def RV.one{I:Im}{c:AV}{v:Value}(h:RV I ρ c v)(ho:zpz c=true):v.oneCell'=true:=by
 cases h<;>first|rfl|(simp[zpz]at ho)
def zuY{W W':World}(h:Grow W W'):∃q os,W'=grow (W.drewN q) os:=by
 refine⟨W'.drawn-W.drawn,W'.heap.extract W.heap.size W'.heap.size,?_⟩;obtain⟨h1,H,G,h4,h5,h6⟩:=h;obtain⟨hp,tp,dr,os,ou⟩:=W;obtain⟨Q,tp',dr',os',ou'⟩:=W';simp only at h1 H G h4 h5 h6;subst h1;subst H;subst G;have e1:dr+(dr'-dr)=dr':=aa
 have e2:hp++Q.extract hp.size Q.size=Q:=by
  apply Array.ext
  ·simp;omega
  ·intro i hi K;rw[Array.getElem_append];split
   ·rename_i N;have:=h6 i N;rw[jZ K,jZ N]at this;exact(uC this).symm
   ·rename_i xT;rw[Array.getElem_extract];congr 1;omega
 simp only[grow,World.drewN,e1,e2]
structure El{α:Type}(I:Im)(enc:α->List AV)(ok:α->Prop)(s:Nat)where
 x:α
 vs:List Value
 hx:ok x
 he:(enc x).length=s
 hl:vs.length=s
 ho:∀v∈vs,v.oneCell'=true
 hr:∀(j:Nat)(c:AV)(v:Value),(enc x)[j]? =some c->vs[j]? =some v->RV I noNames c v
def zqn(F:Array Value)(Q:w.heap[b]? =some (.cells cur e fr)):
 (grow (putRow id (Sort.ahead w n) b 0 F) os).heap[b]? =some (.cells (putCells id 0 F cur) e fr):=by
 have N:b<w.heap.size:=(wU.1 Q).1;rw[heap_grow_old _ _ (ao N)];simp[putRow,mapBlock,Sort.ahead,v6,Q,onCells]
def zl4(F:Array Value):w.grownBy (grow (putRow id (Sort.ahead w n) b 0 F) os) (some b):=by
 refine⟨rfl,rfl,rfl,ah,λk hk Q=>?_⟩;rw[heap_grow_old _ _ (ao hk)];have:b≠k:=λe=>Q (by rw[e])
 simp[putRow,mapBlock,Sort.ahead,v6,this]
def zjj(cur F:Array Value)(h:F.size<=cur.size):(putCells id 0 F cur).toList.take F.size=F.toList:=by
 apply wN;intro j;by_cases Q:j<F.size
 ·rw[u7 Q,v7];simp[putCells,Q,show j<cur.size by omega]
 ·rw[List.getElem?_take_eq_none aa,wO aj]
def zsK{α:Type}{enc:α->List AV}{s:Nat}{d:Nat}{ρ':Nat->Value}{I:Im}{w':World}{l l':List α}(Q:Sat (C0 0 d ⟨ρ,I,O⟩ w) [(2000000,.row enc l E s)] ⟨ρ,I,O⟩ w)(hρ:∀n,n≠2000000->ρ' n=ρ n)(hb:yT (ρ 2000000)=some b)(G:yT (ρ' 2000000)=some b)
 (hm:w.grownBy w' (some b))(xT:w.drawn<=w'.drawn)(hw:w'.ownsRow 0 E s (ρ' 2000000) l'.length xs')(he:∀(i:Nat)x,l'[i]? =some x->(enc x).length=s)
 (hv:∀(i:Nat)x(j:Nat)c v,l'[i]? =some x->(enc x)[j]? =some c->xs'[i*s+j]? =some v->RV I noNames c v):
 Sat (C0 0 d ⟨ρ,I,O⟩ w) [(2000000,.row enc l' E s)] ⟨ρ',I,O⟩ w'/\Ext (C0 0 d ⟨ρ,I,O⟩ w) ⟨ρ',I,O⟩ w':=by
 have N:Rel (C0 0 d ⟨ρ,I,O⟩ w) ⟨[],[(2000000,.row enc l E s)]⟩ ⟨ρ,I,O⟩ {tmps:= #[],defers:=[]} w:=⟨rfl,Dfs.nil _ _ _,λt x h=>by simp[lk]at h,Q,⟨bS _,rfl,rfl,rfl,jG _,jG _,λ_ _ _ _=>⟨rfl,rfl⟩,λb y n _ hy=>⟨n,hy⟩⟩⟩;obtain⟨xs,x2,h1,h2,h3⟩:=Q.blk 2000000 _ rfl;have h4:=h3 b hb
 have hr:=N.modifyR (g':=⟨ρ',I,O⟩) (k:=2000000) (bo:=some b) (B:=.row enc l' E s) (d:=none) (x:=.any) (v:=.nilIface) rfl hρ (λ_ _=>rfl) (λb' e=>by injection e with e;subst e;exact h4) hm xT (Q.ob.up (bS _) hm.size) rfl (.any _)
  ⟨xs',hw,he,hv,λb' K=>by
   have:b'=b:=by rw[G]at K;simpa using K.symm
   subst this;exact h4⟩
 refine⟨⟨hr.sat.im,hr.sat.ob,λk B H=>hr.sat.blk k B ?_⟩,hr.ext⟩;simp only[ym]at H⊢;cases hk:Nat.beq 2000000 k<;>simp[hk]at H⊢
 ·simp[lk]at H
 ·exact H
def zjk{α:Type}{I:Im}{enc:α->List AV}{ok:α->Prop}{s:Nat}[Inhabited (El I enc ok s)]{d:Array (El I enc ok s)}{i j:Nat}{e:El I enc ok s}(hi:d[i]? =some e)(H:j<s):(flatK El.vs s d)[i*s+j]? =e.vs[j]? :=by
 have Q:=(wU.1 hi).1
 have K:i*s+j<d.size*s:=by
  have:=jX s (show i+1<=d.size from Q);rw[Nat.add_mul,vX]at this;omega
 have e1:(i*s+j)/s=i:=(blk_iff s i _ aa).1 ⟨aa,aa⟩;have e2:(i*s+j)%s=j:=by rw[Nat.mod_eq_sub_div_mul,e1];omega
 have h:=get_flatK El.vs s d (i*s+j) K;rw[e1,e2]at h;have G:d[i]! =e:=by rw[getElem!_pos d i Q];exact(wU.1 hi).2
 rw[G]at h;have N:j<e.vs.length:=by rw[e.hl];exact H
 rw[getElem!_pos (flatK El.vs s d) (i*s+j) (ao K),getElem!_pos e.vs j N]at h;rw[jZ (ao K),jC N,h]
abbrev leOf{α:Type}(cf:α->α->Int):α->α->Bool:=λx y=>!ltOf cf y x
def zn4{α β:Type}[Inhabited β](f:β->α)(ok:α->Prop)(cf:α->α->Int)(hT:∀x y,ok x->ok y->ltOf cf x y=false->ltOf cf y x=false->x=y)
 (N:∀x y z,ok x->ok y->ok z->leOf cf x y=true->leOf cf y z=true->leOf cf x z=true)(K:∀x y,ok x->ok y->(leOf cf x y||leOf cf y x)=true)(hf:∀e,ok (f e))
 {d d':Array β}(hp:PermIn 0 d.size d d')(hs:SortedIn (ltOf λx y=>cf (f x) (f y)) 0 d.size d'):d'.toList.map f=(d.toList.map f).mergeSort (leOf cf):=by
 obtain⟨H,_,Q⟩:=hp;have e1:d'.extract 0 d.size=d':=by rw[←H];exact Array.extract_size
 rw[e1,Array.extract_size]at Q;have hok:∀a∈d.toList.map f,ok a:=λa ha=>by obtain⟨e,_,rfl⟩:=jS.1 ha;exact hf e
 let l0:List {a//ok a}:=d.toList.map λe=>⟨f e,hf e⟩
 have G:l0.map Subtype.val=d.toList.map f:=by simp[l0]
 let r0:{a//ok a}->{a//ok a}->Bool:=λx y=>leOf cf x.1 y.1
 have hm:(l0.mergeSort r0).map Subtype.val=(d.toList.map f).mergeSort (leOf cf):=by
  rw[←G];exact List.map_mergeSort (λa _ b _=>rfl)
 rw[←hm];let l1:List {a//ok a}:=d'.toList.map λe=>⟨f e,hf e⟩
 have xT:l1.map Subtype.val=d'.toList.map f:=by simp[l1]
 rw[←xT];congr 1;refine List.Perm.eq_of_pairwise (le:=λx y=>r0 x y=true) ?_ ?_ ?_ ((Q.map _).trans (List.mergeSort_perm _ _).symm)
 ·intro a b _ _ h1 h2;simp only[r0,leOf,wP]at h1 h2;exact Subtype.ext (hT a.1 b.1 a.2 b.2 h2 h1)
 ·rw[wF];intro i j hi hj x2;have x1:i<d'.size:=by simpa[l1]using hi
  have x0:j<d'.size:=by simpa[l1]using hj
  have h:=hs i j (jU _) x2 aa;rw[getElem!_pos d' i x1,getElem!_pos d' j x0]at h;simp only[l1,List.getElem_map,Array.getElem_toList,r0,leOf,wP];exact h
 ·exact List.pairwise_mergeSort (λa b c=>N a.1 b.1 c.1 a.2 b.2 c.2) (λa b=>K a.1 b.1 a.2 b.2) _
def zmV{I:Im}{k f:Nat}(h:RVL I ρ [.own k,.fn f []] args):args=[ρ k,.func (.func f) #[] #[]]:=by
 obtain⟨hl,N⟩:=h
 match args,hl with
 |[u,v],_=>
  rw[zn (N 0 _ u rfl rfl)];have h1:=N 1 _ v rfl rfl;cases h1 with
  |fn f caps vs Q K=>
   have:vs=[]:=jT Q;subst this;rfl
def zuZ(L:SlLaysF0.n6 P τ)(v4:zy P (τ.f 6)=true){α:Type}(enc:α->List AV)(s:Nat)(k4:0<s)(E:TypeId)(l:List α)(v9:l.length<=4000000000)(ok:α->Prop)(cf:α->α->Int)(g:FuncId)
 (aE:∀w,(isAgg (τ.t 24)).run P w=.ok true w)(zE:∀w,(Go.sizeOf (τ.t 24)).run P w=.ok s w)(he:∀x,(enc x).length=s)(h1:∀x c,c∈enc x->zpz c=true)
 (k3:∀x y,ok x->ok y->Fn P g [.agg (enc x),.agg (enc y)] (.int .i64 (cf x y)))(hok:∀x∈l,ok x)(hO:∀x,ok x->cf x x=0)(hF:∀x y z,ok x->ok y->ok z->cf x y<0->cf y z<0->cf x z<0)(k2:∀x y z,ok x->ok y->ok z->0<=cf x y->0<=cf y z->0<=cf x z)
 (hT:∀x y,ok x->ok y->0<=cf x y->0<=cf y x->x=y)(hC:∀x y,ok x->ok y->0<=cf x y\/0<=cf y x):
 FnO P (τ.f 6) [.own 2000000,.fn g []] [(2000000,.row enc l E s)] [2000000] (.tup []) [(2000000,.row enc (l.mergeSort (leOf cf)) E s)]:=by
 refine⟨v4,λd ρ I O w args Q v3=>?_⟩;rw[zmV v3];obtain⟨xs,hw,q1,q2,q3⟩:=Q.blk 2000000 _ rfl
 have H:l=[]->∀p c,ρ 2000000=.slice p 0 c->Calls P (τ.f 6) [ρ 2000000,.func (.func g) #[] #[]].toArray w λe w'=>∃v ρ' I' O',e=.returned v/\Sat (C0 0 d ⟨ρ,I,O⟩ w) [(2000000,.row enc (l.mergeSort (leOf cf)) E s)] ⟨ρ',I',O'⟩ w'/\RV I' ρ' (.tup []) v/\Ext (C0 0 d ⟨ρ,I,O⟩ w) ⟨ρ',I',O'⟩ w'/\∀n∈[2000000],ρ' n=ρ n:=by
  intro hl p c N;subst hl;have e0:([]:List α).mergeSort (leOf cf)=[]:=ah
  rw[N,e0];refine Calls.mono (AnyF.slices_SortFunc_none L p c _ w) ?_
  rintro e w'⟨rfl,rfl⟩
  exact⟨_,ρ,I,O,rfl,Q,.tup [] [] rfl (λj c v h=>by simp at h),⟨bS _,rfl,rfl,rfl,jG _,jG _,λ_ _ _ _=>⟨rfl,rfl⟩,λb y n _ hy=>⟨n,hy⟩⟩,λ_ _=>rfl⟩
 rcases hw.2 with⟨N,h0⟩|⟨b,cap,cur,N,h9,hh,v2,h8,G,htk⟩
 ·exact H (jT h0) _ _ N
 ·have N:ρ 2000000=.slice (some ⟨b,0,none⟩) l.length cap:=N;by_cases hl:l=[]
  ·exact H hl _ _ (by rw[N,hl];rfl)
  --the elements
  have hxl:xs.length=l.length*s:=hw.1
  have hsz:∀i,i<l.length->i*s+s<=l.length*s:=λi hi=>by
   have:=jX s (show i+1<=l.length from hi);rw[Nat.add_mul,vX]at this;exact this
  have v1:∀(i:Nat)(hi:i<l.length),∃e:El I enc ok s,e.x=l[i]/\e.vs=(xs.drop (i*s)).take s:=by
   intro i hi;have v0:l[i]? =some l[i]:=jC hi
   have v9:((xs.drop (i*s)).take s).length=s:=by
    have:=hsz i hi;rw[jO,vC];omega
   have j4:∀j,j<s->((xs.drop (i*s)).take s)[j]? =xs[i*s+j]? :=λj K=>by
    rw[u7 K,wI]
   have x1:∀(j:Nat)(c:AV)(v:Value),(enc l[i])[j]? =some c->((xs.drop (i*s)).take s)[j]? =some v->RV I noNames c v:=λj c v hc xT=>by
    have K:j<s:=by rw[←he l[i]];exact(j5.1 hc).1
    rw[j4 j K]at xT;exact q2 i _ j c v v0 hc xT
   refine⟨⟨l[i],(xs.drop (i*s)).take s,hok _ (wK hi),he _,v9,λv N=>?_,x1⟩,rfl,rfl⟩;obtain⟨j,K,e⟩:=List.mem_iff_getElem.1 N;have j3:j<(enc l[i]).length:=by rw[he];omega
   exact RV.one (x1 j _ v (jC j3) (by rw[jC K,e])) (h1 _ _ (wK j3))
  let dl:List (El I enc ok s):=List.ofFn λi:Fin l.length=>(v1 i.1 i.2).choose
  have j2:∀(i:Nat)(hi:i<l.length),∃e,dl[i]? =some e/\e.x=l[i]/\e.vs=(xs.drop (i*s)).take s:=λi hi=>by
   refine⟨_,by simp[dl,hi],(v1 i hi).choose_spec⟩
  have j1:dl.length=l.length:=by simp[dl]
  have hdm:dl.map El.x=l:=by
   apply xI (by simp[j1]);intro i hi v0;obtain⟨e,h2,h3,_⟩:=j2 i v0;rw[List.getElem_map];have:dl[i]'(ao hi)=e:=(j5.1 h2).2;rw[this,h3]
  have v8:0<l.length:=Nat.pos_of_ne_zero (λh=>hl (jT h))
  haveI:Inhabited (El I enc ok s):=⟨(v1 0 v8).choose⟩
  have hda:∀(i:Nat)(hi:i<l.length),∃e,dl.toArray[i]? =some e/\e.x=l[i]/\e.vs=(xs.drop (i*s)).take s:=λi hi=>by
   obtain⟨e,h2,h3⟩:=j2 i hi;exact⟨e,by simpa using h2,h3⟩
  have x0:dl.toArray.size=l.length:=ao j1
  have k9:ImO I O w:=⟨Q.im,Q.ob⟩;have j0:b<w.heap.size:=zb hh;have hO':O b=some (d,2000000):=(q3 b (by show yT (ρ 2000000)=some b;rw[N];rfl)).1
  have hH:HoldsK El.vs s w b 0 dl.toArray:=by
   intro t ht;have k8:t<l.length*s:=by simpa[x0]using ht
   have hq:t/s<l.length:=(Nat.div_lt_iff_lt_mul k4).2 k8;obtain⟨e,h2,h3,h4⟩:=hda (t/s) hq;have hm:t%s<s:=xY _ k4;have et:t/s*s+t%s=t:=by rw[u3];exact vT t s
   have hg:=zjk h2 hm;rw[et]at hg;have hx:e.vs[t%s]? =xs[t]? :=by rw[h4,u7 hm,wI,et]
   have hxt:xs[t]? =cur[t]? :=by
    rw[←htk,u7 (ao k8),v7]
   have hZ:t<cur.size:=by
    rw[G];exact w7 k8 (jX s v2)
   refine⟨?_,by simp[World.frozen?,hh]⟩
   have hfl:(flatK El.vs s dl.toArray)[t]! =cur[t]:=by
    rw[hx,hxt,jZ hZ]at hg;have h5:=(wU.1 hg);rw[getElem!_pos _ t h5.1];exact h5.2
   rw[hfl];simp[World.cell?,hh,hZ]
  have hY:CmpLays P g #[] El.vs s (λx y:El I enc ok s=>cf x.x y.x) b 0 dl.toArray.size w:=by
   intro m os dk hdk x y
   have hgr:∀a:Addr,a.block<w.heap.size->a.block≠b->(sortWorldK El.vs s w b 0 m dk os).cell? a=w.cell? a:=λa ha hne=>by
    unfold sortWorldK;rw[cell?_grow _ _ _ (by simpa[putRowK,putRow,mapBlock,Sort.ahead]using ha),cell?_putRowK_other _ _ _ _ _ _ _ hne];rfl
   have hio:ImOB ⟨ρ,I,O⟩ (sortWorldK El.vs s w b 0 m dk os):=by
    refine⟨λb' o u hI=>?_,λb' k hk=>?_,k9.2.2⟩
    ·obtain⟨p1,p2⟩:=k9.1 b' o u hI;refine⟨?_,p2⟩
     rw[hgr ⟨b',o,none⟩ (zch p1) (λe=>by
      have e:b'=b:=e;rw[e,hO']at p2;simp at p2)]
     exact p1
    ·have:=k9.2.1 b' k hk;simp only[sortWorldK,putRowK,putRow,mapBlock,Sort.ahead,size_grow,Array.size_modify];omega
   have hc:=(k3 x.x y.x x.hx y.hx).2.2 ⟨ρ,I,O⟩ (sortWorldK El.vs s w b 0 m dk os) [.agg x.vs.toArray,.agg y.vs.toArray] hio ⟨rfl,λj c v K w2=>by
    match j with
    |0=>simp at K w2;subst K;subst w2;exact .agg _ _ (by rw[x.hl,x.he]) x.hr
    |1=>simp at K w2;subst K;subst w2;exact .agg _ _ (by rw[y.hl,y.he]) y.hr
    |j+2=>simp at K⟩
   rw[Array.append_empty];refine Calls.mono hc ?_
   rintro e w'⟨v,g',rfl,x1,hX,_⟩
   have hvi:v=.int .i64 (cf x.x y.x):=by cases x1;rfl
   subst hvi;exact⟨rfl,zuY hX.grow⟩
  have x2:∀x y,ltOf (λx y:El I enc ok s=>cf x.x y.x) x y=decide (cf x.x y.x<0):=λ_ _=>rfl
  have hW:SWO (ltOf λx y:El I enc ok s=>cf x.x y.x):=by
   refine⟨λx=>?_,λx y z=>?_,λx y z=>?_⟩
   ·rw[x2,hO _ x.hx];rfl
   ·simp only[x2,w8];exact hF _ _ _ x.hx y.hx z.hx
   ·simp only[x2,uT,kQ];exact k2 _ _ _ x.hx y.hx z.hx
  have eg:∀args w,(callFunc g args).run P w=.ok (.enter g args) w:=by
   have hx:ok l[0]:=hok _ (wK v8);exactλargs w=>zN (k3 _ _ hx hx).1 args w
  have hS:=AnyQ.slices_SortFunc L s aE zE El.vs (λe=>e.hl) (λe=>e.ho) (λx y:El I enc ok s=>cf x.x y.x) hW g #[] b 0 cap dl.toArray w eg hY hH j0 (by rw[x0];omega);rw[N];refine Calls.mono (by rw[←x0];exact hS) ?_
  rintro e w'⟨rfl,d',n,os,hp,hso,rfl⟩
  have v5:=zn4 El.x ok cf (λx y hx hy h2 h3=>hT x y hx hy (by simpa[ltOf]using h2) (by simpa[ltOf]using h3))
   (λx y z hx hy hz h2 h3=>by
    simp only[leOf,ltOf,wP,uT,kQ]at h2 h3⊢;exact k2 _ _ _ hz hy hx h3 h2)
   (λx y hx hy=>by
    simp only[leOf,ltOf,wL,wP,uT,kQ];exact(hC x y hx hy).symm) (λe=>e.hx) hp hso
  rw[List.toList_toArray,hdm]at v5;have hQ:d'.size=l.length:=hp.1.trans x0;have k7:(flatK El.vs s d').size=l.length*s:=by simp[hQ]
  have k6:(flatK El.vs s d').size<=cur.size:=by rw[k7,G];exact jX s v2
  have hG:(sortWorldK El.vs s w b 0 n d' os).ownsRow 0 E s (ρ 2000000) (l.mergeSort (leOf cf)).length (flatK El.vs s d').toList:=by
   rw[vP];refine⟨by simpa using k7,.inr ⟨b,cap,putCells id 0 (flatK El.vs s d') cur,N,h9,zqn _ hh,v2,h8,by simp[putCells,G],?_⟩⟩;rw[←k7];exact zjj cur _ k6
  obtain⟨s1,s2⟩:=zsK (ρ':=ρ) (l':=l.mergeSort (leOf cf)) Q (λ_ _=>rfl) (by rw[N];rfl) (by rw[N];rfl) (zl4 (n:=n) (os:=os) (flatK El.vs s d')) (by show w.drawn<=w.drawn+n;omega) hG (λ_ x _=>he x) (λi x j c v hi hc xT=>by
   rw[←v5,j9]at hi;cases k5:d'.toList[i]? with
   |none=>rw[k5]at hi;simp at hi
   |some e=>
    rw[k5]at hi;have hxe:e.x=x:=ao hi
    have K:j<s:=by rw[←he x];exact(j5.1 hc).1
    have hg:=zjk (d:=d') (i:=i) (j:=j) (e:=e) (by rw[←v7];exact k5) K;rw[v7,hg]at xT;exact e.hr j c v (by rw[hxe];exact hc) xT)
  exact⟨_,ρ,I,O,rfl,s1,.tup [] [] rfl (λj c v h=>by simp at h),s2,λ_ _=>rfl⟩
end Go.Rse
