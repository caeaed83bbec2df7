/-
  Walks.
-/
import Derived.Test.YtpapdhoblekoeaaGreatDoorZJCad2
set_option linter.all false
set_option maxHeartbeats 8000000
namespace Go.Rse
open Go Go.Proofs Go.Proofs.Tryz
variable{C:Ctx}{L:List Fi}{T:TypeId}{a:Act}{g:Gh}{st:St}{w:World}{α κ:Type}{kenc:κ->AV}{venc:α->AV}
def zoC:∀(n:Nat)(l:List Nat),(∀i,i<n->i∈l)->n<=l.length
 |0,l,_=>jU _
 |n+1,l,h=>by
  have hm:=h n aa;have h1:=zoC n (l.erase n) λi hi=>(List.mem_erase_of_ne aa).2 (h i aa)
  have N:=xU hm;have K:=List.length_pos_of_mem hm;omega
def RnJ.all{s:Array Nat}{n:Nat}(h:RnJ n s)(N:∀i,i<n->s.contains i=true):s.size=n:=by
 have h1:=h.le;have K:=zoC n s.toList λi hi=>by have:=N i hi;simpa using this
 have H:s.toList.length=s.size:=xP;omega
def fiS(L:List Fi):List Fi:=L.mergeSort (leOf λa b:Fi=>lxC (a.V,a.E,0) (b.V,b.E,0))
def zt0{x:Fi}:x∈fiS L↔x∈L:=kR
def zq2{κ α:Type}[DecidableEq κ]{q:κ}:∀{l:List (κ×α)}{i:Nat},kix q l i=none->q∉l.map (·.1)
 |[],_,_=>by simp
 |p::l,i,h=>by
  unfold kix at h;split at h
  ·cases h
  ·rename_i N;rw[wW,jW,not_or];exact⟨N,zq2 h⟩
def zt1[DecidableEq κ]{q:κ}{l:List (κ×α)}(h:kget q l=none):q∉l.map (·.1):=by
 unfold kget at h;cases hk:kix q l 0 with
 |none=>exact zq2 hk
 |some j=>
  obtain⟨y,_,N⟩:=znS l 0 j hk;rw[vY]at N;rw[hk]at h;simp only[Option.bind_some,N,wS]at h;cases h
structure CpO(D O:Fm)(q:Array Nat)(M:Fm):Prop where
 r:RnJ O.length q
 m:∀x∈M,x∈D\/x∈O
 n:(M.map (·.1)).Nodup
 l:M.length=D.length+q.size
 f:∀(i:Nat)p,O[i]? =some p->q.contains i=false->p.1∉M.map (·.1)
def CpO.z{D O:Fm}(h:(D.map (·.1)).Nodup)(N:∀p∈O,kget p.1 D=none):CpO D O #[] D:=⟨RnJ.z _,λx hx=>.inl hx,h,ah,λi p K _=>zt1 (N p (j6 K))⟩
def CpO.s{D O:Fm}{q:Array Nat}{M:Fm}{i:Nat}{p:(Int×Int)×Fi}(h:CpO D O q M)(hO:(O.map (·.1)).Nodup)(hi:i<O.length)(E:q.contains i=false)(H:O[i]? =some p):CpO D O (q.push i) (kput p.1 p.2 M):=by
 have hk:=zkN p.1 p.2 M;rw[j8 (h.f i p H E)]at hk;refine⟨h.r.s hi E,λx hx=>?_,zlM h.n,?_,λj p' N K=>?_⟩
 ·rcases zgt hx with hx|hx
  ·exact .inr (by rw[hx];exact j6 H)
  ·exact h.m x hx
 ·have e:=jA List.length hk;rw[jD,jJ,jD,h.l]at e;rw[e,vG];rfl
 ·rw[hk,w9,not_or];have G:j≠i:=λe=>by subst e;simp at K
  refine⟨h.f j p' N (by cases hq:q.contains j;rfl;exfalso;simp at K hq;exact K.1 hq),λe=>?_⟩;have e1:=w6.1 e;have lj:j<(O.map (·.1)).length:=by rw[jD];exact(j5.1 N).1
  refine G ((xB lj hO).1 ?_);rw[j9,j9,N,H,wS,wS,e1]
def zy0{l:List (κ×α)}(hr:Rel C st g a w)(k kb:Nat)(hk:lk st.h k=some (.mpb kenc venc l))(G:lk st.h kb=some (.box [.mp k] T))(N:k.beq kb=false)(K:∀x,(kenc x).flat=true)(H:∀x,(venc x).flat=true):
 ∃b g',Rel C ⟨mapT (frzB kb [.val (.map (some b))]) (mapT (frzV k (.map (some b))) st.t),(kb,.dead)::mapH (frzB kb [.val (.map (some b))]) ((k,.dead)::mapH (frzV k (.map (some b))) st.h)⟩ g' a w/\∀ds,MapO b kenc venc l ds g'.I g'.O w:=by
 obtain⟨b,g1,r1,hB⟩:=hr.letMap hk K H;have e1:frzV k (.map (some b)) (.mp k)=.val (.map (some b)):=by simp[frzV]
 obtain⟨g2,r2,o2,-⟩:=r1.freezeBox (k:=kb) (cs:=[.val (.map (some b))]) (E:=T) (by
  show lk ((k,Blk.dead)::_) kb=_;simp only[ym,N,cond_false,zeT,G];simp[mapB,e1]) rfl
 exact⟨b,g2,r2,λds=>(hB ds).up o2⟩
attribute [local irreducible] Pur yy yu Ex X Fn FnE Imp LeV LeB FnO It ItX yA zaJ evL kput kget tq pf rdO fiS
def z7(l:List Ev)(hl:l.length<=4000000):FnO prog 211 [evsA l] [] [] (.own 5) [(5,.row evE l 62 10)]:=by
 refine bR [] func211 ntmps211 (λg w d vs=>?_);apply yc;refine yk ?_;apply ye;apply yc;refine ya ?_;refine Ex.eqNil rfl sl28 rfl (λb H=>?_);refine gd ?_ ?_<;>intro N
 ·have K:=H N;subst K;subst N;apply yc;refine yk ?_;refine bC ?_;refine zI (yz evE 62 10 2 5 rfl rfl) ?_;refine zm4.mk (ts:=[(2,.own 5)]) (.inr rfl) (yh) (.one (.tmp rfl (kZ rfl)))
 refine gq ?_;refine yH evE [] ?_;refine ya ?_;refine bF ?_;refine yk ?_;refine bC ?_;refine zm4.mk (ts:=[(2,.own 5)]) (.inr rfl) (yh) (.one (.tmp rfl (kZ rfl)))
def zgX(a b:Fi):Fn prog 176 [fiA a,fiA b] (iv (lxC (a.V,a.E,0) (b.V,b.E,0))):=by
 have N:orV [cmpI a.V b.V,cmpI a.E b.E]=lxC (a.V,a.E,0) (b.V,b.E,0):=by unfold lxC cmpI orV orV orV orV;grind
 refine bB func176 ntmps176 (λg w d=>?_);refine gq ?_;refine y4 [4,5,6,7,8,9,10,11,12,13,14,15,16] [0,1,0,4,15,0,32,0,128,511,1023,2047,4095] mo ?_;iterate 4 refine yb ?_
 refine yI (zm a.V b.V) ?_;iterate 4 refine yb ?_
 refine yI (zm a.E b.E) ?_;refine ChM.step rfl rfl rfl (ztk (enc:=intE) (l:=[cmpI a.V b.V,cmpI a.E b.E]) sl22 ty3 ze3) rfl ?_;refine yI (zdx [cmpI a.V b.V,cmpI a.E b.E] ah) ?_;refine yb ?_;refine yD ?_;refine gq ?_;all_goals rw[N]
def FiU(L:List Fi):Prop:=∀x∈L,∀y∈L,x.V=y.V->x.E=y.E->x=y
def zq3(L:List Fi)(H:FiU L)(hl:L.length<=4000000000):
 FnO prog 213 [.own 2000000,.fn 176 []] [(2000000,.row fiE L 223 4)] [2000000] (.tup []) [(2000000,.row fiE (fiS L) 223 4)]:=by
 unfold fiS
 exact zkW zjc ae fiE 4 ac _ L hl _ (λa=>(a.V,a.E,0)) Tryz.isAgg223 Tryz.sizeOf223 (λ_=>rfl)
  (λt c N=>by simp[fiE]at N;rcases N with rfl|rfl|rfl|rfl<;>rfl) (λx hx y K=>zgX x y) (λx hx y K e=>by
   simp only[Prod.mk.injEq]at e;exact H x hx y K e.1 e.2.1)
def zt(L:Fm)(bm:Nat):ItX prog 214 [.ept (λ_:Unit=>[.val (.map (some bm))]) () 0] (λj zs=>j<L.length/\∃p∈L,zs=[.agg (fiE p.2)]) (· =L.length) (MapO bm prE fiA L):=by
 refine ItX.intro (ts:=λlY=>[(0,.yv lY),(1,.ept (λ_:Unit=>[.val (.map (some bm))]) () 0)]) (n:=15) ae func214 rfl ntmps214 rfl (λ_=>rfl) ah (λg w d ds Y lY v8 hH hY=>?_);apply yc;refine ya ?_;refine zuv (K:=333) (E:=223) (hH.at (λ_=>rfl) (λ_=>rfl)) (λkb=>?_) (ht:=Tryz.underlying279);apply bD;apply kX;refine zag (ι:=Array Nat) [0,6] (λ(q:Array Nat)zz=>zz) [] (λ(q:Array Nat)zz=>(1000000,.yld q.size true)::(6,.obj kb (.mapIter (some bm) L.length q L.length))::zz) (λ(q:Array Nat)=>RnJ L.length q) (λ(q:Array Nat)=>L.length-q.size) #[] (λq hk=>?_) (hJ:=by exact RnJ.z _);apply yc;refine Ex.nxtM (bm:=bm) (kb:=6) (hm:=(hH.at (λ_=>rfl) (λ_=>rfl))) (λmo i x1 x0=>?_);refine gd ?_ ?_<;>intro H
 ·subst H;have w2:=x0 rfl;obtain⟨N,G⟩:=w2;obtain⟨p,hp⟩:∃p,L[i]? =some p:=⟨_,lgg N⟩;have v9:=j6 hp;have v5:(q.push i).size=q.size+1:=vG ..;have v4:=(hk.s N G).le;apply yf;apply kX;apply yc;refine ya (x:=.tup [prE p.1,fiA p.2]) (hs:=znj (bm:=bm) (kb:=6) p hp rfl rfl (hH.at (λ_=>rfl) (λ_=>rfl)) (λ_ _=>rfl) (λ_ _=>rfl)) ?_;refine ya ?_;refine yP ?_;refine bF ?_;apply yp;iterate 2 refine ya ?_
  refine zhk hY rfl rfl rfl (bK _) rfl rfl ⟨aa,p,v9,rfl⟩ rfl (λbb=>?_);refine gd ?_ ?_<;>intro xT
  ·subst xT;refine bC ?_;refine⟨.inr rfl,_,false,rfl,λhb=>by simp at hb⟩
  subst xT;apply yf;refine yr (q.push i) (hJ:=by exact hk.s N G) (hm:=aa) (hI:=kW)
 ·subst H;have x2:=hk.all (x1 rfl);apply bH;refine⟨.inl rfl,_,true,rfl,λ_=>x2⟩
def zA(L:Fm):FnO prog 175 [.mp 2000020] [(2000020,.mpb prE fiA L)] [2000020] (.fn 214 [.ptr 1 0 0 0]) [(2000020,.mpb prE fiA L),(1,.box [.mp 2000020] 279)]:=by
 refine bR [.mp 2000020] func175 ntmps175 (λg w d vs=>?_);apply yc;refine zax ?_;refine ya ?_;apply yp;refine yC ?_;refine bC ?_;refine zm4.mk (ts:=[(2,.fn 214 [.ptr 1 0 0 0])]) (.inr rfl) (kW) (.one (.tmp rfl (kZ rfl)))
def zaO(L:Fm)(hl:L.length<=1000000):FnE prog 253 [.nils,.fn 214 [.ptr 2000021 0 0 0]] [(2000020,.mpb prE fiA L),(2000021,.box [.mp 2000020] 279)] [] (ι:={Z:List Fi//Z.length=L.length/\∀x∈Z,∃p∈L,p.2=x}) (λZ=>.own 40) (λZ=>[(40,.row fiE Z.1 223 4)]):=by
 refine bU [] func253 ntmps253 (λg w d vh=>?_);apply yc;refine zax ?_;refine yk ?_;iterate 2 apply ye
 refine yl (zK fiE 223 4 2 40 219 rfl rfl) ?_;apply yd;refine yk ?_;apply kX
 refine X.rangeX (π:=Nat) (sl:=[2]) (ι:=List Fi) (X:=(λj zs=>j<L.length/\∃p∈L,zs=[.agg (fiE p.2)])) (N:=(· =L.length)) (H:=λbm=>MapO bm prE fiA L) (caps':=λbm=>[.ept (λ_:Unit=>[.val (.map (some bm))]) () 0]) (λZ=>([.ptr 2 0 0 0],[(1000001,.hold vh []),(2,.box [.own 40] 219),(40,.row fiE (Z) 223 4)])) (λj Z=>Z.length=j/\∀x∈Z,∃p∈L,p.2=x) [] 900001 900002 rfl (λ_=>rfl) ac (λj zs K=>by obtain⟨-,p,-,rfl⟩:=K;rfl) (λbm=>zt L bm) trivial rfl rfl ac (jU _) ah (λj zs K=>by obtain⟨-,p,-,rfl⟩:=K;rfl) (λ_=>rfl) rfl rfl (λlL oo uu g a w G=>by
  have E:=zy0 G 2000020 2000021 rfl rfl rfl (λ_=>rfl) (λ_=>rfl);obtain⟨bm,g',r,hB⟩:=E;exact⟨bm,g',r.ax,hB _⟩) ⟨rfl,ah⟩ (λj zs Z K hJ l ready busy rb vs g w hb x2=>?_) (λj Z hN hJ=>?_)
 ·obtain⟨x1,p,xT,rfl⟩:=K;have x0:=hJ.1;apply yd;refine yP ?_;refine bF ?_;apply bD;refine⟨rfl,rfl,?_⟩;refine gq ?_;refine yH fiE [p.2] ?_;iterate 2 refine bF ?_
  apply bD;refine⟨[.ptr 2 0 0 0],[(1000001,.hold vh []),(2,.box [.own 40] 219),(40,.row fiE (Z++[p.2]) 223 4)],kW,Z++[p.2],rfl,by rw[jJ,hJ.1];rfl,λx hx=>?_⟩;rcases w9.1 hx with hx|hx
  ·exact hJ.2 x hx
  ·exact⟨p,xT,(w6.1 hx).symm⟩
 apply yc;refine yC ?_;refine bC ?_;refine zm3.mk (⟨Z,by rw[hJ.1];exact hN,hJ.2⟩) [(4,.own 40)] [] (.inr rfl) (kW) (.one (.tmp rfl (kZ rfl)))
def zct(L:Fm)(hl:L.length<=1000000):FnE prog 212 [.fn 214 [.ptr 2000021 0 0 0]] [(2000020,.mpb prE fiA L),(2000021,.box [.mp 2000020] 279)] [] (ι:={Z:List Fi//Z.length=L.length/\∀x∈Z,∃p∈L,p.2=x}) (λZ=>.own 40) (λZ=>[(40,.row fiE Z.1 223 4)]):=by
 refine bU [] func212 ntmps212 (λg w d vs=>?_);apply yc;refine ya ?_;apply yp;refine ya ?_;refine zaB [(2000020,2000020),(2000021,2000021),(40,40)] (zaO L hl) (λZ=>?_);refine yk ?_;refine bC ?_;refine zm3.mk (Z) [(2,.own 40)] [] (.inr rfl) (kW) (.one (.tmp rfl (kZ rfl)))
def zbX(L:Fm)(hl:L.length<=1000000)(H:∀p∈L,∀q∈L,p.2.V=q.2.V->p.2.E=q.2.E->p.2=q.2):FnE prog 174 [.fn 214 [.ptr 2000021 0 0 0],.fn 176 []] [(2000020,.mpb prE fiA L),(2000021,.box [.mp 2000020] 279)] [] (ι:={Z:List Fi//Z.length=L.length/\∀x∈Z,∃p∈L,p.2=x}) (λZ=>.sl fiE Z.1) (λZ=>[]):=by
 refine bU [] func174 ntmps174 (λg w d vs=>?_);apply yc;refine ya ?_;apply yp;refine ya ?_;refine zaB [(2000020,2000020),(2000021,2000021),(40,40)] (zct L hl) (λZ=>?_);refine gq ?_
 refine y0 [(2000000,40)] (zq3 Z.1 (λx hx y G e1 e2=>by
  have N:=Z.2.2 x hx;obtain⟨p,hp,rfl⟩:=N;have K:=Z.2.2 y G;obtain⟨q,hq,rfl⟩:=K;exact H p hp q hq e1 e2) (by rw[Z.2.1];omega)) ?_
 apply yp;refine yC ?_;refine bC ?_;refine zeQ (kY (k:=40) rfl) ?_;refine zm3.mk (⟨fiS Z.1,by rw[show(fiS Z.1).length=Z.1.length from by unfold fiS;exact vP _];exact Z.2.1,λx hx=>Z.2.2 x (zt0.1 hx)⟩) [(4,.sl fiE (fiS Z.1))] [] (.inr rfl) (kW) (.one (.tmp rfl (kZ rfl)))
def zed(L:Fm)(hl:L.length<=1000000)(N:∀p∈L,∀q∈L,p.2.V=q.2.V->p.2.E=q.2.E->p.2=q.2):FnE prog 142 [.mp 2000020] [(2000020,.mpb prE fiA L)] [] (ι:={Z:List Fi//Z.length=L.length/\∀x∈Z,∃p∈L,p.2=x}) (λZ=>.sl fiE Z.1) (λZ=>[]):=by
 refine bU [] func142 ntmps142 (λg w d vs=>?_);refine gq ?_;refine y0 [(2000020,2000020),(1,4)] (zA L) ?_;refine zaB [(2000020,2000020),(2000021,4)] (zbX L hl N) (λZ=>?_);refine yk ?_;refine bC ?_;refine zm3.mk (Z) [(2,.sl fiE Z.1)] [] (.inr rfl) (kW) (.one (.tmp rfl (kZ rfl)))
def za(D O:Fm)(hD:(D.map (·.1)).Nodup)(hO:(O.map (·.1)).Nodup)(hd:∀p∈O,kget p.1 D=none):FnE prog 172 [.mp 2000020,.mp 2000021] [(2000020,.mpb prE fiA D),(2000021,.mpb prE fiA O)] [2000020,2000021] (ι:={M:Fm//(∀x∈M,x∈D\/x∈O)/\(M.map (·.1)).Nodup/\M.length=D.length+O.length}) (λM=>.tup []) (λM=>[(2000020,.mpb prE fiA M.1),(2000021,.mpb prE fiA O)]):=by
 refine bU [.mp 2000020,.mp 2000021] func172 ntmps172 (λg w d vs=>?_);apply yc;refine ya ?_;refine ztj (K:=333) (E:=223) 1000002 (λkb bm=>?_) (ht:=Tryz.underlying279);apply bD;apply kX;refine zag (ι:=Array Nat×Fm) [0,7] (λ(q:Array Nat×Fm)zz=>zz) [1000001,2000021,1000002] (λ(q:Array Nat×Fm)zz=>(2000020,.mpb prE fiA q.2)::(7,.obj kb (.mapIter (some bm) O.length q.1 O.length))::zz) (λ(q:Array Nat×Fm)=>CpO D O q.1 q.2) (λ(q:Array Nat×Fm)=>O.length-q.1.size) (#[],D) (λq hk=>?_) (hJ:=by exact CpO.z hD hd);apply yc;refine Ex.nxt (k:=2000021) (kb:=7) (kh:=1000002) (λmo i x2 x1=>?_);refine gd ?_ ?_<;>intro H
 ·subst H;have x0:=x1 rfl;obtain⟨N,G⟩:=x0;obtain⟨p,hp⟩:∃p,O[i]? =some p:=⟨_,lgg N⟩;have w2:(q.1.push i).size=q.1.size+1:=vG ..;have v9:=(hk.r.s N G).le;apply yf;apply kX;apply yc;refine ya (x:=.tup [prE p.1,fiA p.2]) (hs:=zpV (kb:=7) (kh:=1000002) p hp rfl rfl rfl rfl (λ_ _=>rfl) (λ_ _=>rfl)) ?_;refine gq ?_;refine yX (zck (q:=p.1) (venc:=fiA) p.2 zk7 rfl rfl rfl rfl rfl rfl Tryz.underlying279 (λ_ _=>rfl)) ?_;apply bD;refine yr ((q.1.push i,kput p.1 p.2 q.2)) (hJ:=by exact hk.s hO N G hp) (hm:=by(show O.length-(q.1.push i).size<O.length-q.1.size;omega)) (hI:=kW)
 ·subst H;have xT:=hk.r.all (x2 rfl);apply bH;refine zm3.mk (⟨q.2,hk.m,hk.n,by rw[hk.l,xT]⟩) [] [] (.inl rfl) (kW) (.many ac .nil)
end Go.Rse
namespace Go.Rse
open Go Go.RowKit Go.Proofs.Tryz
abbrev vS(x:Option Addr×Nat×Nat):Value:=.slice x.1 x.2.1 x.2.2
def valE:Option Addr×Nat×Nat->List AV:=λv=>[.val (vS v)]
section
variable{P:Program}{C:Ctx}{st:St}{ty:TypeId}{Q:Exit->St->Prop}
variable{A:Option Addr}{k:Nat}{op:Op}{ops:Array Oper}{rest:List Oper}{x:Operand}{α β:Type}{enc:α->List AV}{enc':β->List AV}{venc:α->AV}
def zoD{l:List α}{E s:Nat}(k kh:Nat)(hk:lk st.h k=some (.row enc l E s))(h:∀A n,Ex P C ops rest ⟨st.t,(kh,.hold [.slice A l.length n] [.own k])::st.h⟩ Q):Ex P C ops rest st Q:=λg a w hr=>by
 obtain⟨xs,G,h1,h2,h3⟩:=hr.sat.blk k _ hk;rcases G.2 with⟨e,h0⟩|⟨b,cap,cur,e,_,hh,xT,x2,H,x1⟩
 ·refine h none 0 g a w (hr.withBlk (k:=kh) (B:=.hold [.slice none l.length 0] [.own k]) ⟨rfl,λj c' v N K=>?_⟩);cases j with
  |zero=>simp at N K;subst N;subst K;exact .own k _ _ _ (by rw[e,h0])
  |succ j=>simp at N
 ·refine h _ cap g a w (hr.withBlk (k:=kh) (B:=.hold [.slice (some ⟨b,0,none⟩) l.length cap] [.own k]) ⟨rfl,λj c' v N K=>?_⟩);cases j with
  |zero=>simp at N K;subst N;subst K;exact .own k _ _ _ e
  |succ j=>simp at N
def zmr{t kh n c:Nat}(ht:lk st.t t=some (.own k))(K:lk st.h kh=some (.hold [.slice A n c] [.own k])):Imp C st ⟨(t,.val (.slice A n c))::st.t,st.h⟩:=λg a w hr=>⟨g,hr.slots rfl λt' x hx=>by
 simp only[ym]at hx;cases N:t.beq t'
 ·rw[N,cond_false]at hx;exact hr.tmps t' x hx
 ·rw[N,cond_true]at hx;injection hx with hx;subst hx;have e1:t=t':=ao N
  subst e1;rw[←(zn (hr.tmps t _ ht)),zeq hr K];exact .val _⟩
def zq4{kh n c:Nat}(h:Pur P C op ty st (.val (.slice A n c)))(N:lk st.h kh=some (.hold [.slice A n c] [.own k])):Pur P C op ty st (.own k):=λg a w dst pos af gd hr=>by
 obtain⟨v,e,K⟩:=h g a w dst pos af gd hr;have e2:=zac K;subst e2;exact⟨_,e,.own k _ _ _ (zeq hr N)⟩
def zt2{κ:Type}{kenc:κ->AV}{l:List (κ×α)}{t K E:TypeId}(hx:ev st x=some (.mp k))(hk:lk st.h k=some (.mpb kenc venc l))(ht:P.underlying t=some (.map K E)):
 Pur P C (.call {callee:=.builtin .len,args:= #[x],argTypes:= #[t]}) ty st (.int .i64 l.length):=λg a w dst pos af gd hr=>by
 obtain⟨b,es,ck,h1,G,h3,N,H,h6⟩:=hr.sat.blk k _ hk;obtain⟨b',ex,e2⟩:=zdc (yq hr hx);rw[h1]at e2;injection e2 with e2;injection e2 with e2;subst e2;refine⟨.int .i64 es.size,?_,by rw[H.1];exact .int _ _⟩;simp[execOp,resolve,invoke,builtin,ex,Builtin.len_,run_underlying ht,MapKept.run_getObj_map N,goInt]
def zq5{k1 k2 E:Nat}{v1 v2:Option Addr×Nat×Nat}{y1 y2:β}{c1 c2:AV}(hk:lk st.h k=some (.row valE [v1,v2] E 1))(h1:lk st.h k1=some (.hold [vS v1] [c1]))(H:lk st.h k2=some (.hold [vS v2] [c2]))
 (e1:enc' y1=[c1])(e2:enc' y2=[c2])(n1:AV.nm c1=true)(n2:AV.nm c2=true):Imp C st ⟨st.t,(k,.row enc' [y1,y2] E 1)::st.h⟩:=λg a w hr=>⟨g,hr.withBlk (by
 obtain⟨xs,q1,q2,q3,q4⟩:=hr.sat.blk k _ hk;obtain⟨_,p1⟩:=hr.sat.blk k1 _ h1;obtain⟨_,p2⟩:=hr.sat.blk k2 _ H;have r1:RV g.I noNames c1 (vS v1):=(p1 0 _ _ rfl rfl).forget n1;have r2:RV g.I noNames c2 (vS v2):=(p2 0 _ _ rfl rfl).forget n2;have s1:∀v,xs[0]? =some v->v=vS v1:=λv K=>zac (q3 0 v1 0 _ v rfl rfl (ao K))
 have s2:∀v,xs[1]? =some v->v=vS v2:=λv K=>zac (q3 1 v2 0 _ v rfl rfl (ao K))
 refine⟨xs,q1,λi x hx=>?_,λi x j c v hx N K=>?_,q4⟩
 ·match i,hx with
  |0,hx=>injection hx with hx;subst hx;rw[e1];rfl
  |1,hx=>injection hx with hx;subst hx;rw[e2];rfl
  |i+2,hx=>simp at hx
 ·match i,hx with
  |0,hx=>
   injection hx with hx;subst hx;rw[e1]at N
   match j,N with
   |0,N=>injection N with N;subst N;rw[s1 v (ao K)];exact r1
   |j+1,N=>simp at N
  |1,hx=>
   injection hx with hx;subst hx;rw[e2]at N
   match j,N with
   |0,N=>injection N with N;subst N;rw[s2 v (ao K)];exact r2
   |j+1,N=>simp at N
  |i+2,hx=>simp at hx)⟩
end
end Go.Rse
namespace Go.Rse
open Go Go.Proofs Go.Proofs.Tryz
section
attribute [local irreducible] Pur yy yu Ex X Fn FnE Imp LeV LeB FnO It yA evL
section
variable{V:List Nu}{a:Int}{e:Ev}{k:Nat}{x:Fi}
def nuA(x:Nu)(a:Int):Nu:={x with P:=⟨x.P.Step,x.P.Oct,a⟩}
def evW(e:Ev)(a:Int):Ev:={e with P:=⟨e.P.Step,e.P.Oct,a⟩}
def vAl(V:List Nu)(k:Nat)(a:Int):List Nu:=V.mapIdx λi x=>if i=k then nuA x a else x
def wAl(W:List (List Nu))(x:Fi):List (List Nu):=W.mapIdx λv V=>if(v:Int)=x.V then vAl V x.E.toNat x.A else V
def zeM(V:List Nu)(k:Nat)(a:Int):(vAl V k a).length=V.length:=by unfold vAl;simp
def zoE(W:List (List Nu))(x:Fi):(wAl W x).length=W.length:=by unfold wAl;simp
def zld(V:List Nu)(k:Nat)(a:Int)(i:Nat):(vAl V k a)[i]? =(V[i]?).map λx=>if i=k then nuA x a else x:=by unfold vAl;rw[uR]
def zq6(V:List Nu)(k:Nat)(a:Int):usV (vAl V k a)=usV V:=by
 refine wN λi=>?_
 rw[j9,j9,zld,kV];congr 1;funext x;show(if i=k then nuA x a else x).u=x.u;split<;>rfl
def zle(V:List Nu)(i:Nat):(evL V)[i]? =(V[i]?).map (evA V i):=by unfold evL;rw[uR]
def zq7(h:(evL V)[k]? =some e):(evL V).set k (evW e a)=evL (vAl V k a):=by
 refine wN λi=>?_
 rw[vF,zle (vAl V k a),zld,zle];rw[zle]at h;obtain⟨x,hx,N⟩:=u0.1 h;have hl:k<(evL V).length:=by rw[zj];exact(j5.1 hx).1
 by_cases e:k=i
 ·subst e;rw[j7 rfl,j7 hl,hx,wS,wS,j7 rfl,←N];unfold evA evW nuA;rw[zq6]
 ·rw[j8 e,kV];congr 1;funext y;show _=evA (vAl V k a) i (if i=k then nuA y a else y);rw[j8 (λc=>e c.symm)];unfold evA;rw[zq6]
def zwX{U:List Nu}:wAl [V,U] x=[if x.V=0 then vAl V x.E.toNat x.A else V,if x.V=1 then vAl U x.E.toNat x.A else U]:=by
 unfold wAl;simp only[List.mapIdx_cons,List.mapIdx_nil];congr 1
 ·by_cases h:x.V=0
  ·rw[j7 h,j7 (by rw[h];rfl)]
  ·rw[j8 h,j8 (λe=>h e.symm)]
 ·congr 1;by_cases h:x.V=1
  ·rw[j7 h,j7 (by rw[h];rfl)]
  ·rw[j8 h,j8 (λe=>h e.symm)]
attribute [local irreducible] ItX zaJ kput kget tq pf rdO fiS vAl
def zee(V U:List Nu)(k8:V.length<=60)(k7:U.length<=60)(F:List Fi)(hF:F.length<=1000000)(hx:∀x∈F,(x.V=0\/x.V=1)/\0<=x.E/\(x.V=0->x.E<V.length)/\(x.V=1->x.E<U.length)):Fn prog 173 [vosA (voL [V,U]),.sl fiE F] (vosA (voL (F.foldl wAl [V,U]))):=by
 have k6:=zj V;have k9:=zj U;have k5:F.foldl wAl [V,U]=(F.drop 0).foldl wAl [V,U]:=rfl;refine bB func173 ntmps173 (λg w d=>?_);apply yc;refine ya ?_;apply yp;refine yk ?_;apply ye;apply yc;refine yo ?_;refine yl (yz valE 28 1 5 30 rfl rfl) ?_;apply kX;refine ze8 (ι:=List (Option Addr×Nat×Nat)) (λz=>match z with|[]=>[(0,vosA (voL [V,U])),(1,.sl fiE F),(10,vosA (voL [V,U])),(11,iv 2),(12,iv 0),(5,.own 30)]|[_]=>[(0,vosA (voL [V,U])),(1,.sl fiE F),(10,vosA (voL [V,U])),(11,iv 2),(12,iv 1),(5,.own 30)]|_=>[(0,vosA (voL [V,U])),(1,.sl fiE F),(10,vosA (voL [V,U])),(11,iv 2),(12,iv 2),(5,.own 30)]) (λz=>match z with|[]=>[(30,.row valE [] 28 1)]|[v1]=>[(30,.row valE [v1] 28 1),(31,.row evE (evL V) 62 10),(41,.hold [vS v1] [.own 31])]|v1::v2::_=>[(30,.row valE [v1,v2] 28 1),(31,.row evE (evL V) 62 10),(41,.hold [vS v1] [.own 31]),(32,.row evE (evL U) 62 10),(42,.hold [vS v2] [.own 32])]) (λz=>z.length<=2) (λz=>2-z.length) [] (λz hz=>?_) (hJ:=ac) (h0:=by exact kW);have k4:(voL [V,U])[(0:Int).toNat]? =some (evL V):=rfl;have k3:(voL [V,U])[(1:Int).toNat]? =some (evL U):=rfl;rcases z with _|⟨v1,_|⟨v2,z⟩⟩
 ·refine gd ?_ ?_<;>intro hc
  ·refine gq ?_;refine y0 [(5,31)] (z7 (evL V) aa) ?_;refine zoD 31 41 (by exact rfl) (λA n=>?_);refine yY (zmr (t:=18) (kh:=41) (k:=31) rfl rfl) ?_;refine yH valE [(A,(evL V).length,n)] ?_;refine yX (zaZ rfl rfl rfl rfl ztt ti28 ac ac (λ_=>rfl) (λ_=>rfl) ah rfl) ?_;refine gq ?_;refine yr [(A,(evL V).length,n)] (hJ:=by(show _<=2;simp)) (hm:=ah) (hI:=kW)
  ·exact absurd hc ac
 ·refine gd ?_ ?_<;>intro hc
  ·refine gq ?_;refine y0 [(5,32)] (z7 (evL U) aa) ?_;refine zoD 32 42 (by exact rfl) (λA n=>?_);refine yY (zmr (t:=18) (kh:=42) (k:=32) rfl rfl) ?_;refine yH valE [(A,(evL U).length,n)] ?_;refine yX (zaZ rfl rfl rfl rfl ztt ti28 ac ac (λ_=>rfl) (λ_=>rfl) ah rfl) ?_;refine gq ?_;refine yr [v1,(A,(evL U).length,n)] (hJ:=by(show _<=2;simp)) (hm:=ah) (hI:=kW)
  ·exact absurd hc ac
 ·refine gd ?_ ?_<;>intro hc
  ·exact absurd hc ac
  apply bH;apply ye;apply yc;refine yo ?_;apply kX;refine zag (ι:=Nat×List Nu×List Nu) [1,22,23,5] (λ(q:Nat×List Nu×List Nu)zz=>(24,iv (q.1:Int))::zz) [30,41,42] (λ(q:Nat×List Nu×List Nu)zz=>(31,.row evE (evL q.2.1) 62 10)::(32,.row evE (evL q.2.2) 62 10)::zz) (λ(q:Nat×List Nu×List Nu)=>q.1<=F.length/\q.2.1.length=V.length/\q.2.2.length=U.length/\(F.drop q.1).foldl wAl [q.2.1,q.2.2]=F.foldl wAl [V,U]) (λ(q:Nat×List Nu×List Nu)=>F.length-q.1) (0,V,U) (λq hk=>?_) (hJ:=by exact⟨jU _,rfl,rfl,rfl⟩);obtain⟨k,V1,U1⟩:=q;dsimp only at*
  obtain⟨j4,K,H,G⟩:=hk;refine gd ?_ ?_<;>intro j3
  ·obtain⟨x,xT⟩:∃x,F[k]? =some x:=⟨_,lgg aa⟩;have j2:F[(k:Int).toNat]? =some x:=xT;have v5:=hx x (j6 xT);obtain⟨N,j1,x2,x1⟩:=v5;have hdr:F.drop k=x::F.drop (k+1):=by rw[jQ aa,(j5.1 xT).2]
   rw[←K]at x2;rw[←H]at x1;apply yf;apply ye;apply kX;apply yc;(iterate 2 refine ya ?_);refine yP ?_;refine bF ?_;apply bD;rcases N with N|N
   ·obtain⟨e,he⟩:∃e,(evL V1)[x.E.toNat]? =some e:=⟨_,lgg (by rw[zj];have:=x2 N;omega)⟩;have v4:=zq7 (a:=x.A) he
    have x0:(F.drop (k+1)).foldl wAl [vAl V1 x.E.toNat x.A,U1]=F.foldl wAl [V,U]:=by
     rw[←G,hdr,x9,zwX,j7 N,j8 aa]
    have v9:=zj V1;have v3:([v1,v2]:List (Option Addr×Nat×Nat)).length=2:=rfl;have v0:=x2 N;have w2:([v1,v2]:List (Option Addr×Nat×Nat))[x.V.toNat]? =some v1:=by rw[N];rfl
    refine y4 [28,29,30,31,32,33,34,35,36] [0,0,2,7,15,0,32,0,128,511,1023,2047,4095] mo ?_;(iterate 4 refine yb ?_);refine ChM.step rfl rfl rfl (bA (zq4 (k:=31) (kh:=41) (zao rfl rfl w2 rfl rfl ty28) rfl)) rfl ?_;(iterate 4 refine yb ?_);refine yD ?_;(iterate 3 refine ya ?_);refine bF (hs:=y6 (n:=1) e (evW e x.A) rfl rfl he (λ_=>rfl) ac rfl rfl rfl ac rfl rfl rfl TyK.h) ?_;refine gq ?_;refine yr ((k+1,vAl V1 x.E.toNat x.A,U1)) (hJ:=by exact⟨am,by dsimp only;first|(rw[zeM];exact K)|exact K,by dsimp only;first|(rw[zeM];exact H)|exact H,x0⟩) (hm:=by(dsimp only;omega)) (hI:=kW)
   ·obtain⟨e,he⟩:∃e,(evL U1)[x.E.toNat]? =some e:=⟨_,lgg (by rw[zj];have:=x1 N;omega)⟩;have v4:=zq7 (a:=x.A) he
    have x0:(F.drop (k+1)).foldl wAl [V1,vAl U1 x.E.toNat x.A]=F.foldl wAl [V,U]:=by
     rw[←G,hdr,x9,zwX,j8 aa,j7 N]
    have v9:=zj U1;have v3:([v1,v2]:List (Option Addr×Nat×Nat)).length=2:=rfl;have v0:=x1 N;have w2:([v1,v2]:List (Option Addr×Nat×Nat))[x.V.toNat]? =some v2:=by rw[N];rfl
    refine y4 [28,29,30,31,32,33,34,35,36] [0,0,2,7,15,0,32,0,128,511,1023,2047,4095] mo ?_;(iterate 4 refine yb ?_);refine ChM.step rfl rfl rfl (bA (zq4 (k:=32) (kh:=42) (zao rfl rfl w2 rfl rfl ty28) rfl)) rfl ?_;(iterate 4 refine yb ?_);refine yD ?_;(iterate 3 refine ya ?_);refine bF (hs:=y6 (n:=1) e (evW e x.A) rfl rfl he (λ_=>rfl) ac rfl rfl rfl ac rfl rfl rfl TyK.h) ?_;refine gq ?_;refine yr ((k+1,V1,vAl U1 x.E.toNat x.A)) (hJ:=by exact⟨am,by dsimp only;first|(rw[zeM];exact K)|exact K,by dsimp only;first|(rw[zeM];exact H)|exact H,x0⟩) (hm:=by(dsimp only;omega)) (hI:=kW)
  ·apply bH;apply ye;have v8:F.foldl wAl [V,U]=[V1,U1]:=by rw[←G,show k=F.length by omega,uD];rfl
   refine yl (kY (k:=31) rfl) ?_;refine yl (kY (k:=32) rfl) ?_;refine yl (zq5 (k:=30) (k1:=41) (k2:=42) (enc':=vosE) (y1:=evL V1) (y2:=evL U1) rfl rfl rfl rfl rfl rfl rfl) ?_;refine yl (kY (k:=30) rfl) ?_;refine gq ?_;all_goals((rw[v8];rfl))
end
section
variable{L:Fm}{p:Int×Int}{x:Fi}
def ShK(W W':List (List Nu)):Prop:=W'.length=W.length/\∀(v:Nat)V V',W[v]? =some V->W'[v]? =some V'->V'.length=V.length/\∀k,(evG V' k).R=(evG V k).R
def ShK.r(W:List (List Nu)):ShK W W:=⟨rfl,λv V V' h N=>by rw[h]at N;injection N with N;subst N;exact⟨rfl,λ_=>rfl⟩⟩
def ShK.s{W W':List (List Nu)}(h:ShK W W'):ShK W' W:=⟨h.1.symm,λv V V' e e'=>⟨(h.2 v V' V e' e).1.symm,λk=>((h.2 v V' V e' e).2 k).symm⟩⟩
def ShK.t{W W' X:List (List Nu)}(h:ShK W W')(N:ShK W' X):ShK W X:=⟨N.1.trans h.1,λv V V' e e'=>by
 obtain⟨U,K⟩:∃U,W'[v]? =some U:=⟨_,lgg (by rw[h.1];exact(j5.1 e).1)⟩;have a:=h.2 v V U e K;have b:=N.2 v U V' K e';exact⟨b.1.trans a.1,λk=>(b.2 k).trans (a.2 k)⟩⟩
def PlcK.sh{W W':List (List Nu)}(h:PlcK W p)(s:ShK W W'):PlcK W' p:=by
 obtain⟨V,h1,K,E,H,G⟩:=h.h;obtain⟨V',N⟩:∃V',W'[p.1.toNat]? =some V':=⟨_,lgg (by rw[s.1];exact(j5.1 h1).1)⟩;have a:=s.2 _ V V' h1 N;exact⟨h.v,V',N,K,aa,by rw[s.1,a.1];exact H,by rw[a.2];exact G⟩
def zy1(V:List Nu)(k:Nat)(a:Int)(i:Nat):(evG (vAl V k a) i).R=(evG V i).R:=by
 unfold evG;rw[jB,jB,zld];cases V[i]? with
 |none=>rfl
 |some x=>show(if i=k then nuA x a else x).R=x.R;split<;>rfl
def zq8(W:List (List Nu))(x:Fi)(v:Nat):(wAl W x)[v]? =(W[v]?).map λV=>if(v:Int)=x.V then vAl V x.E.toNat x.A else V:=by unfold wAl;rw[uR]
def zy2(W:List (List Nu))(x:Fi):ShK W (wAl W x):=⟨zoE W x,λv V V' e e'=>by
 rw[zq8,e,wS]at e';injection e' with e';subst e';split
 ·exact⟨zeM ..,λk=>zy1 ..⟩
 ·exact⟨rfl,λ_=>rfl⟩⟩
def FiK(W:List (List Nu))(x:Fi):Prop:=PlcK W (x.V,x.E)/\(x.A=1\/x.A=-1)
def FiK.sh{W W':List (List Nu)}(h:FiK W x)(s:ShK W W'):FiK W' x:=⟨h.1.sh s,h.2⟩
def zBw{W:List (List Nu)}(h:VsK W)(hx:FiK W x):VsK (wAl W x):=⟨by rw[zoE];exact h.l,λV' N=>by
 obtain⟨v,K⟩:=jL.1 N;rw[zq8]at K;obtain⟨V,H,rfl⟩:=u0.1 K;have hk:=h.k V (j6 H);split
 ·rename_i e;obtain⟨V2,q1,q2,q3,-,q5⟩:=hx.1.h;have e2:x.V.toNat=v:=aa
  rw[show((x.V,x.E):Int×Int).1=x.V from rfl,e2,H]at q1;injection q1 with q1;subst q1;refine⟨by rw[zeM];exact hk.l,λy hy=>?_⟩;obtain⟨i,hi⟩:=jL.1 hy;rw[zld]at hi;obtain⟨z,G,rfl⟩:=u0.1 hi;have kz:=hk.k z (j6 G);split
  ·rename_i ei
   have hr:z.R=false:=by
    have:(evG V x.E.toNat).R=false:=q5;rw[←ei,zsa G]at this;exact this
   refine⟨kz.u,⟨kz.p.s,kz.p.o,?_⟩,λe=>?_,kz.s,kz.ps⟩
   ·show-1<=x.A/\x.A<=1;rcases hx.2 with e|e<;>omega
   ·have e':z.R=true:=e;rw[hr]at e';cases e'
  ·exact kz
 ·exact hk⟩
def zq9:∀(L:List Fi)(W:List (List Nu)),VsK W->(∀x∈L,FiK W x)->VsK (L.foldl wAl W)/\ShK W (L.foldl wAl W)
 |[],W,h,_=>⟨h,ShK.r W⟩
 |x::L,W,h,hx=>by
  have h1:=zBw h (hx x ah);have N:=zy2 W x;have K:=zq9 L (wAl W x) h1 λy H=>(hx y (wA _ H)).sh N
  exact⟨K.1,N.t K.2⟩
structure DnK(W:List (List Nu))(D:Fm):Prop where
 k:∀q∈D,PlcK W q.1/\q.2.V=q.1.1/\q.2.E=q.1.2/\(q.2.A=1\/q.2.A=-1)
 n:(D.map (·.1)).Nodup
def DnK.z(W:List (List Nu)):DnK W []:=⟨ah,ah⟩
def zy3{α β:Type}{f:α->β}{l:List α}(h:(l.map f).Nodup){x y:α}(hx:x∈l)(K:y∈l)(e:f x=f y):x=y:=by
 obtain⟨i,hi⟩:=jL.1 hx;obtain⟨j,N⟩:=jL.1 K;have li:i<(l.map f).length:=by rw[jD];exact(j5.1 hi).1
 have:=(xB li h).1 (show(l.map f)[i]? =(l.map f)[j]? by rw[j9,j9,hi,N,wS,wS,e]);subst this;rw[hi]at N;injection N
def zwY{W:List (List Nu)}(hk:∀q∈L,PlcK W q.1/\q.2.V=q.1.1/\q.2.E=q.1.2/\(q.2.A=1\/q.2.A=-1))(hn:(L.map (·.1)).Nodup):∀p∈L,∀q∈L,p.2.V=q.2.V->p.2.E=q.2.E->p.2=q.2:=λp N q K e1 e2=>by
 have a:=hk p N;have b:=hk q K;have:p.1=q.1:=Prod.ext (by rw[←a.2.1,←b.2.1,e1]) (by rw[←a.2.2.1,←b.2.2.1,e2]);rw[zy3 hn N K this]
def zlf{W:List (List Nu)}(h:VsK W)(hk:∀q∈L,PlcK W q.1)(hn:(L.map (·.1)).Nodup):L.length<=480:=by
 have N:∀q∈L,0<=q.1.1/\q.1.1<8/\0<=q.1.2/\q.1.2<60:=λq K=>by
  have a:=hk q K;obtain⟨V,h1,h2,h3,-⟩:=a.h;have:=(j5.1 h1).1;have:=(h.k V (j6 h1)).l;have:=h.l;have:=a.v;omega
 have h1:=zlN 480 (L.map λq=>q.1.1.toNat*60+q.1.2.toNat) (by
  rw[List.Nodup,List.pairwise_map];refine List.Pairwise.imp_of_mem (λ{a b}E H G e=>?_) (List.pairwise_map.1 hn);have ba:=N a E;have bb:=N b H;exact G (Prod.ext aa aa)) (λx hx=>by
  obtain⟨q,K,rfl⟩:=jS.1 hx;have:=N q K;omega)
 simpa using h1
def zBx{W:List (List Nu)}(N:W.length=2\/∀V∈W,V.length<=2)(h:PlcK W p):W.length=2:=by
 obtain⟨V,h1,H,G,K,-⟩:=h.h;rcases N with e|e
 ·exact e
 ·have:=e V (j6 h1);rcases K with e2|e2
  ·exact e2
  ·omega
def zHo{W:List (List Nu)}(h:W.length=2):∃V U,W=[V,U]:=by
 match W,h with
 |[V,U],_=>exact⟨V,U,rfl⟩
attribute [local irreducible] ItX zaJ kput kget tq pf rdO fiS vAl wAl
def zeZ(W:List (List Nu))(h:VsK W)(h2:W.length<=2)(hW:W.length=2\/∀V∈W,V.length<=2):FnE prog 141 [vosA (voL W)] [] [] (ι:={x:Fm×Nat//DnK W x.1}) (λx=>.tup [.mp 7,iv (x.1.2:Int)]) (λx=>[(7,.mpb prE fiA x.1.1)]):=by
 refine bU [] func141 ntmps141 (λg w d vs=>?_);refine gq ?_;refine bP (zaH (k:=7) prE fiA) rfl rfl ?_;refine ya ?_;apply yp;refine yk ?_;apply ye;refine X.label ?_;apply ye;apply kX;refine zag (ι:=List (List Nu)×Fm×Nat) [4] (λ(q:List (List Nu)×Fm×Nat)zz=>(0,vosA (voL q.1))::(5,iv (q.2.2:Int))::zz) [1000001] (λ(q:List (List Nu)×Fm×Nat)zz=>(7,.mpb prE fiA q.2.1)::zz) (λ(q:List (List Nu)×Fm×Nat)=>(VsK q.1/\ShK W q.1)/\DnK W q.2.1/\q.2.2<=q.2.1.length) (λ(q:List (List Nu)×Fm×Nat)=>481-q.2.1.length) (W,[],0) (λq hk=>?_) (hJ:=by exact⟨⟨h,ShK.r W⟩,DnK.z W,jG _⟩);obtain⟨Y0,D,r⟩:=q;dsimp only at*
 obtain⟨⟨N,K⟩,H,k8⟩:=hk;have k7:=zlf h (λq G=>(H.k q G).1) H.n;apply kX;apply yc;iterate 2 refine ya ?_
 refine zaB [(2000020,7),(8,10)] (zd1 Y0 N (by rw[K.1];exact h2) D) (λo=>?_);refine yk ?_;apply ye;apply yc;refine ya ?_;refine ya (hs:=zt2 rfl rfl Tryz.underlying279) ?_;refine gd ?_ ?_<;>intro k6
 ·apply bH;apply yc;refine ya ?_;refine yo ?_;refine bC ?_;refine zm3.mk (⟨(D,r),H⟩) [(2,.mp 7),(3,iv (r:Int))] [] (.inr rfl) (kW) (.many ac (.cons (.tmp rfl (kZ rfl)) (.cons (.tmp rfl (kZ rfl)) .nil)))
 have k5:=zlf N (λq G=>(o.2.k q G).1) o.2.n;have x1:=List.exists_mem_of_length_pos (l:=o.1) aa;obtain⟨p0,x0⟩:=x1
 have w2:Y0.length=2:=by
  rw[K.1];exact zBx hW ((o.2.k p0 x0).1.sh K.s)
 have v9:=zHo w2;obtain⟨V,U,rfl⟩:=v9;have v8:=N.k V ah;have v5:=N.k U ah;have v4:=v8.l;have v3:=v5.l
 have v2:∀x:Fi,FiK [V,U] x->(x.V=0\/x.V=1)/\0<=x.E/\(x.V=0->x.E<V.length)/\(x.V=1->x.E<U.length):=λx hx=>by
  have hv:=hx.1.v;obtain⟨T,t1,t2,t3,-⟩:=hx.1.h;dsimp only at*
  have v1:=(j5.1 t1).1;simp only[w5,uM]at v1;refine⟨aa,t2,λe=>?_,λe=>?_⟩
  ·rw[e]at t1;injection t1 with t1;subst t1;exact t3
  ·rw[e]at t1;injection t1 with t1;subst t1;exact t3
 apply yf;apply yc;iterate 3 refine ya ?_
 apply yp;iterate 2 refine ya ?_
 refine zaB [(2000020,7),(2000021,10)] (za D o.1 H.n o.2.n o.2.d) (λM=>?_);apply bD;apply yd;iterate 2 refine ya ?_
 refine zaB [(2000020,10)] (zed o.1 aa (zwY o.2.k o.2.n)) (λZ=>?_)
 have xT:∀x∈Z.1,FiK [V,U] x:=λx hx=>by
  have v0:=Z.2.2 x hx;obtain⟨p,hp,rfl⟩:=v0;have a:=o.2.k p hp;exact⟨by rw[a.2.1,a.2.2.1];exact a.1,a.2.2.2⟩
 have x2:=zq9 Z.1 [V,U] N xT;have k4:=M.2.2.2
 have k9:DnK W M.1:=⟨λq G=>by
  rcases M.2.1 q G with e|e
  ·exact H.k q e
  ·have a:=o.2.k q e;exact⟨a.1.sh K.s,a.2⟩,M.2.2.1⟩
 refine gc (zee V U v4 v3 Z.1 (by rw[Z.2.1];omega) (λx hx=>v2 x (xT x hx))) ?_;refine yr ((Z.1.foldl wAl [V,U],M.1,r+1)) (hJ:=by exact⟨⟨x2.1,K.t x2.2⟩,k9,am⟩) (hm:=by(dsimp only;omega)) (hI:=kW)
def zms(W:List (List Nu))(h:VsK W)(E:W.length<=2)(hW:W.length=2\/∀V∈W,V.length<=2):FnE prog 96 [vosA (voL W)] [] [] (ι:={Z:List Fi//Z.length<=480/\∀x∈Z,FiK W x}) (λZ=>.tup [.sl fiE Z.1,iv 0]) (λZ=>[]):=by
 refine bU [] func96 ntmps96 (λg w d vs=>?_);refine gc (zbF W h) ?_;refine gd ?_ ?_<;>intro N
 ·exact absurd rfl N
 apply yf;apply yc;refine ya ?_;refine zaB [(7,40)] (zeZ W h E hW) (λx=>?_);have K:=zlf h (λq hq=>(x.2.k q hq).1) x.2.n;iterate 5 refine ya ?_
 apply yp;refine ya ?_;refine zaB [(2000020,40)] (zed x.1.1 aa (zwY x.2.k x.2.n)) (λZ=>?_)
 have H:∀y∈Z.1,FiK W y:=λy hy=>by
  have G:=Z.2.2 y hy;obtain⟨p,hp,rfl⟩:=G;have a:=x.2.k p hp;exact⟨by rw[a.2.1,a.2.2.1];exact a.1,a.2.2.2⟩
 refine yC ?_;refine bC ?_;refine zm3.mk (⟨Z.1,by rw[Z.2.1];exact K,H⟩) [(2,.sl fiE Z.1),(3,iv 0)] [] (.inr rfl) (kW) (.many ac (.cons (.tmp rfl (kZ rfl)) (.cons (.tmp rfl (kZ rfl)) .nil)))
def zgY(W:List (List Nu))(h:VsK W)(K:W.length<=2)(H:W.length=2\/∀V∈W,V.length<=2):FnE prog 49 [vosA (voL W)] [] [] (ι:=List ((Int×Int)×Int)) (λl=>.mp 50) (λl=>[(50,.mpb prE (λi:Int=>iv i) l)]):=by
 refine bU [] func49 ntmps49 (λg w d vs=>?_);apply yc;refine ya ?_;apply yp;refine ya ?_;refine zaB [] (zms W h K H) (λZ=>?_);have G:=Z.2.1;refine gq ?_;refine bP (zaH (k:=50) prE (λi:Int=>iv i)) rfl rfl ?_;refine gq ?_;refine ze8 (ι:=Nat×List ((Int×Int)×Int)) (λ(q:Nat×List ((Int×Int)×Int))=>[(14,.sl fiE Z.1),(15,iv (Z.1.length:Int)),(16,iv (q.1:Int)),(5,.mp 50)]) (λ(q:Nat×List ((Int×Int)×Int))=>[(1000001,.hold vs []),(50,.mpb prE (λi:Int=>iv i) q.2)]) (λ(q:Nat×List ((Int×Int)×Int))=>q.1<=Z.1.length) (λ(q:Nat×List ((Int×Int)×Int))=>Z.1.length-q.1) (0,[]) (λq hk=>?_) (h0:=by exact kW);obtain⟨k,L⟩:=q;dsimp only at*
 refine gd ?_ ?_<;>intro xT
 ·obtain⟨x,N⟩:∃x,Z.1[k]? =some x:=⟨_,lgg aa⟩;have x2:Z.1[(k:Int).toNat]? =some x:=N;refine gq ?_;refine yX (zck (q:=(x.V,x.E)) (venc:=λi:Int=>iv i) x.A zqO rfl rfl rfl rfl rfl rfl Tryz.underlying150 (λ_ _=>rfl)) ?_;refine gq ?_;refine yr ((k+1,kput (x.V,x.E) x.A L)) (hm:=by(dsimp only;omega)) (hI:=kW)
 ·apply bH;apply yc;refine yC ?_;refine bC ?_;refine zm3.mk (L) [(2,.mp 50)] [] (.inr rfl) (kW) (.one (.tmp rfl (kZ rfl)))
end
end
section
variable{P:Program}{T:List Sg}{f:FuncId}{m:Mn}{r:Rdg}{xs:List AV}
def zoF{m:Mn}:∀(L:List Int)(I:List Ite)(C:List Int)(J:List Ite),gLv m L I C J->J.length=I.length
 |[],_,_,_,h=>by rw[h.2]
 |k::r,I,C,J,h=>by
  obtain⟨M,C',-,h1,N⟩:=h;exact(zoF r _ C' J N).trans (zig h1)
theorem zBy{l:List Sg}(N:ckD m l=0)(hr:r∈aqV m l):r.Durs.length=ntN l l.length:=by
 by_cases h:aqE m l=0
 ·obtain⟨n,hn,C,J,K,rfl⟩:=(zyM h).1 hr;have hi:=zri (zcD N).1 N (zrh (zwQ h).1 hn);have:=zoF _ _ _ _ K;show(J.map (·.Dur)).length=_;rw[jD,this];exact zoQ hi
 simp_all[aqV]
theorem zBz{l:List Sg}(h:rdE m l=0):ckD m l=0:=jY λN=>N ((zy8 N).1.symm.trans h)
theorem zBA{l:List Sg}(h:rdE m l=0)(hl:l.length<=400)(hn:NC l):CtK m l:=by
 grind[zBz,zBy,zyN,zBl,CtK]
theorem zy4{b d:Bool}(h:RdT T d):rcV (cfS 0 3::mnS m b::T) ⟨2,2+(T.length:Int),m⟩=T:=by
 grind[rcV,zsI,List.take_length]
structure RuK(z:List Sg)(us:List Int):Prop where
 l:us.length<=55
 u:∀u∈us,u%2=0/\1<=u/\u<=384
 n:us.length=(ntI z z.length).length
 t:TfK z (rpV z).Durs (us.map tq)
 d:∀d∈(rpV z).Durs,¬d.N=0
 c:∀c∈scV z,CtK c.M (rcV z c)
theorem RuK.p{z:List Sg}{us:List Int}(h:RuK z us):Pos us:=λu N=>by have:=h.u u N;omega
def RuK.s{z:List Sg}{us:List Int}(h:RuK z us):0<=us.sum/\us.sum<=21120:=by
 have h1:=zlH (l:=us) (B:=384) λu N=>(h.u u N).2.2
 have K:=h.l;exact⟨zi0 h.p,aa⟩
def RuK.ut{z:List Sg}{us:List Int}(h:RuK z us):UtK us:=⟨by have:=h.l;omega,h.p,by have:=h.s;omega⟩
theorem RuK.vu{z:List Sg}{us:List Int}(h:RuK z us):usV (voP z us)=us:=zsz h.n
def RuK.v{z:List Sg}{us:List Int}(h:RuK z us)(K:RdP z):VoK (voP z us):=by
 refine⟨by rw[zeS h.n];have:=h.l;omega,λx hx=>?_⟩;obtain⟨k,hk⟩:=jL.1 hx;have N:k<us.length:=by rw[←zeS h.n];exact(j5.1 hk).1
 obtain⟨i,hi⟩:∃i,(ntI z z.length)[k]? =some i:=⟨_,lgg (by rw[←h.n];exact N)⟩;obtain⟨u,H⟩:∃u,us[k]? =some u:=⟨_,lgg N⟩;obtain⟨n,s,rfl,hs,ht⟩:=zn0 hi;rw[zsA H hi (s:=s) (by rw[jN];exact hs)]at hk;injection hk with hk;subst hk;have h1:=h.u u (j6 H);have G:=(j5.1 hs).1;have E:=K.l;refine⟨⟨by show 0<u;omega,by show u<=1000;omega⟩,?_,λhr=>?_,⟨by show 0<=(n:Int);omega,by show(n:Int)<=400;omega⟩,by show(0:Int)<=0/\(0:Int)<=400;decide⟩
 ·show PtV (ptS s);unfold ptS;by_cases c:s.Kind=1
  ·rw[j7 c];exact zCp (K.cl n s hs c).2.2
  ·rw[j8 c];exact⟨ac,ac,ac⟩
 grind[ptS]
def zra{z:List Sg}(N:z=[cfS 0 3]\/∃m b,z=[cfS 0 3,mnS m b]):RuK z []:=by
 have h1:ntI z z.length=[]/\(rpV z).Durs=[]/\scV z=[]:=by
  rcases N with rfl|⟨m,b,rfl⟩
  ·exact⟨rfl,rfl,rfl⟩
  ·exact⟨rfl,rfl,rfl⟩
 refine⟨ah,ah,by rw[h1.1],⟨by rw[h1.1,h1.2.1];rfl,by rw[h1.2.1];rfl,λk d i t hk=>?_⟩,λd K=>?_,λc H=>?_⟩;all_goals simp_all
theorem zBB{b d:Bool}(h1:RdM m)(K:RdT T d)(h3:T.length<=55)(H:T≠[])(h0:rdE m T=0):RuK (cfS 0 3::mnS m b::T) (usR b m T):=by
 have hl:=zxG h0;have N:=zDr (b:=b) h1 K H h0;have E:(usR b m T).length=(rdV m T).Durs.length:=by unfold usR;rw[jD]
 refine⟨?_,λu G=>?_,?_,N,λt ht=>?_,λc hc=>?_⟩
 ·have:=zfv T T.length;omega
 ·unfold usR at G;obtain⟨t,ht,rfl⟩:=jS.1 G;have:=zsJ h1 K h0 b ht;exact⟨this.h,this.l,this.u⟩
 ·have e1:=N.t;have e2:=N.n;rw[jD]at e1;omega
 ·rw[(zpy K H).2 h0]at ht;exact(zsJ h1 K h0 b ht).n
 have xT:NC T:=λs hs=>by unfold clr;rw[(K.s s hs).ok.2.2.2,Bool.and_false]
 grind[zsH,zy4,zBA]
def RdP.ru{z:List Sg}(h:RdP z)(hE:(rsK (rusV z) 0).1=0):∃us,RuK z us:=by
 rcases h with e|⟨m,b,T,d,rfl,h1,K,H⟩
 ·exact⟨[],zra (.inl e)⟩
 ·by_cases N:T=[]
  ·subst N;exact⟨[],zra (.inr ⟨m,b,rfl⟩)⟩
  grind[zBB,zpy]
def RdP.z0{z:List Sg}(h:RdP z):z[0]? =some (cfS 0 3):=by
 rcases h with rfl|⟨m,b,T,d,rfl,_⟩<;>rfl
def RdP.fa{z:List Sg}(h:RdP z){nm:ByteArray}(hn:nmQ (bsB nm)=true)(hs:nm.size<=1000000):Fn prog 65 [.agg [.str nm,sgsA z]] (.tup [tmsA (faL z z.length),iv 0]):=
 zeg nm z hs hn (by have:=h.l;omega) (λx hx=>(h.ok x hx).1) (λx hx=>by
  rcases h with rfl|⟨m,b,T,d,rfl,h1,N,K⟩
  ·rw[w6.1 hx];decide
  ·rcases jW.1 hx with rfl|hx
   ·grind[cfS]
   ·rcases jW.1 hx with rfl|hx
    ·grind[mnS]
    ·have:=(N.s x hx).ok.2.2.1;omega)
def Fn.re{r r':AV}(h:Fn P f xs r)(hl:LeV r r')(hn:r'.nm=true):Fn P f xs r':=⟨h.1,hn,λg w args a b=>Calls.mono (h.2.2 g w args a b) λe w'⟨v,g',h1,N,K⟩=>⟨v,g',h1,hl _ _ _ N,K⟩⟩
attribute [local irreducible] Fn FnE
structure NmK(nm:ByteArray):Prop where
 n:nmQ (bsB nm)=true
 s:nm.size<=1000000
def zrb{nm:ByteArray}(hn:NmK nm){z:List Sg}(h:RdP z){us:List Int}(N:RuK z us)(hE:(rsK (rusV z) 0).1=0):Fn prog 6 [.agg [.str nm,sgsA z]] (.tup [evsA (evL (voP z us)),.agg [iv 0,iv 0]]):=
 zjg nm z (h.pt hn.n hn.s) h.r (cfS 0 3) h.z0 rfl us N.ut N.n h.sc (h.fa hn.n hn.s) N.t h.cl N.d hE
def zwZ{nm:ByteArray}(hn:NmK nm){z:List Sg}(h:RdP z):∃(L:List Ev)(f:Int),Fn prog 6 [.agg [.str nm,sgsA z]] (.tup [evsA L,.agg [iv (rsK (rusV z) 0).1,iv f]])/\((rsK (rusV z) 0).1=0->∃us,RuK z us/\L=evL (voP z us)):=by
 by_cases hE:(rsK (rusV z) 0).1=0
 ·obtain⟨us,N⟩:=h.ru hE;exact⟨_,0,by simp_all[zrb],λ_=>⟨us,N,rfl⟩⟩
 ·exact⟨[],_,(zjh nm z (h.pt hn.n hn.s) h.r h.sc hE).re (LeV.tup (.cons (bO _) (bK _))) rfl,λe=>absurd e hE⟩
def zBC{nm:ByteArray}(hn:NmK nm){z:List Sg}(h:RdP z){us:List Int}(N:RuK z us):Fn prog 13 [.agg [.str nm,sgsA z],tmsA (rpV z).Durs] (.tup [tmsA (atL us us.length),tmA (tq us.sum),iv 0]):=
 zer nm z (h.pt hn.n hn.s) h.r (cfS 0 3) h.z0 rfl us N.ut N.n h.sc (h.fa hn.n hn.s) (rpV z).Durs N.t
def zBD{nm:ByteArray}(hn:NmK nm){z:List Sg}(h:RdP z){us:List Int}(N:RuK z us):Fn prog 21 [.agg [.str nm,sgsA z]] (.tup [.sl bkE (bkS (cxA z)),iv 0]):=
 zj0 nm z (h.pt hn.n hn.s) h.sc N.c λs hs=>(h.ok s hs).2.2
structure PrK(Z:List (ByteArray×List Sg))(W:List (List Nu)):Prop where
 l:Z.length<=2
 w:W.length=Z.length
 z:∀p∈Z,NmK p.1/\RdP p.2/\(rsK (rusV p.2) 0).1=0
 u:∀(i:Nat)(p:ByteArray×List Sg)(V:List Nu),Z[i]? =some p->W[i]? =some V->∃us,RuK p.2 us/\V=voP p.2 us
 d:∀(i:Nat)(x:ByteArray),(Z.map (·.1))[i]? =some x->∀y∈(Z.map (·.1)).take i,(x.toList==y.toList)=false
 h:W.length=2\/∀V∈W,V.length<=2
def scZ(Z:List (ByteArray×List Sg))(W:List (List Nu))(m:Int):List Sv:=scC W (Z.map (·.1)) (Z.map λp=>bkS (cxA p.2)) (16*m)
section
variable{Z:List (ByteArray×List Sg)}{W:List (List Nu)}(h:PrK Z W)
include h
variable{m:Int}
theorem PrK.k:∀V∈W,VoK V/\(∀u∈usV V,u%2=0)/\(usV V).sum<=21120/\0<=(usV V).sum:=λV K=>by
 obtain⟨i,hi⟩:=jL.1 K;obtain⟨p,N⟩:∃p,Z[i]? =some p:=⟨_,lgg (by rw[←h.w];exact(j5.1 hi).1)⟩;obtain⟨us,k,rfl⟩:=h.u i p V N hi;rw[k.vu];exact⟨k.v (h.z p (j6 N)).2.1,λu H=>(k.u u H).1,k.s.2,k.s.1⟩
def PrK.vs:VsK W:=⟨by rw[h.w];have:=h.l;omega,λV N=>(h.k V N).1⟩
def PrK.e:∀V∈W,∀u∈usV V,u%2=0:=λV N=>(h.k V N).2.1
def PrK.b(h1:1<=m):∀V∈W,brM (usV V) (16*m)<=2000:=λV N=>by
 have K:=(h.k V N).2.2;have H:((usV V).sum+16*m-1)/(16*m)<=(21120+16*m-1)/(16*m):=Int.ediv_le_ediv aa aa
 have G:(21120+16*m-1)/(16*m)<=1400:=Int.ediv_le_of_le_mul aa (by
  omega)
 unfold brM;omega
def zw0(h1:1<=m)(h8:m<=8):Fn prog 7 [.sl ptsE Z,.agg [iv m,iv 1]] (.tup [.agg [iv m,iv 1,.sl svE (scZ Z W m)],.agg [iv 0,iv 0]]):=by
 have G:=h.w;have hl:=h.l;have e:=zlJ Z W h.vs h.e m h1 h8 (h.b h1) (Z.map λp=>bkS (cxA p.2)) G.symm ak (λi p V K N hv H=>?_) ?_ ?_ ?_ (zgY W h.vs (by rw[G];exact hl) h.h)
 ·exact e
 ·obtain⟨us,k,rfl⟩:=h.u i p V N hv;have r:=h.z p (j6 N);rw[j9,N]at H;injection H with H;subst H;exact⟨zrb r.1 r.2.1 k r.2.2,zBD r.1 r.2.1 k⟩
 ·refine zjP (Z.map (·.1)) (by grind) (λs hs=>?_) h.d;obtain⟨p,N,rfl⟩:=jS.1 hs;exact⟨(h.z p N).1.n,(h.z p N).1.s⟩
 ·have:(Z.map λp=>bkS (cxA p.2)).flatten.length<=(Z.map λp=>bkS (cxA p.2)).length*160801:=zr8 λx hx=>by
   obtain⟨p,N,rfl⟩:=jS.1 hx;obtain⟨i,hi⟩:=jL.1 N;obtain⟨V,hV⟩:∃V,W[i]? =some V:=⟨_,lgg (by rw[G];exact(j5.1 hi).1)⟩;obtain⟨us,k,-⟩:=h.u i p V hi hV;rw[zpi];exact zlL (by have:=(h.z p N).2.1.l;omega) λc hc=>(k.c c hc).n
  grind
 ·intro b E;obtain⟨x,hx,E⟩:=List.mem_flatten.1 E;obtain⟨p,N,rfl⟩:=jS.1 hx;exact zCC (by have:=(h.z p N).2.1.l;omega) b (zuI.1 E)
def zBE(h1:1<=m)(N:m<=8):Fn prog 10 [.agg [iv m,iv 1,.sl svE (scZ Z W m)]] (.tup [vosA (voL W),iv 0]):=zzO h.vs h.e h1 N (h.b h1) _ _ m 1
end
end
section
def nmX:ByteArray:=⟨#[97]⟩
def nmY:ByteArray:=⟨#[98]⟩
def zoG:NmK nmX:=⟨by decide+kernel,ac⟩
def zw1:NmK nmY:=⟨by decide+kernel,ac⟩
def zHp(z1 z2:List Sg)(i:Nat)(x:ByteArray)(h:([(nmX,z1),(nmY,z2)].map (·.1))[i]? =some x):∀y∈([(nmX,z1),(nmY,z2)].map (·.1)).take i,(x.toList==y.toList)=false:=λy N=>by
 match i,h with
 |0,h=>cases N
 |1,h=>injection h with h;subst h;rw[w6.1 N];show(nmY.toList==nmX.toList)=false;decide+kernel
 |i+2,h=>simp at h
def zw2(n:Int):(⟨n/gI n 1,1/gI n 1⟩:Tm)=⟨n,1⟩:=by
 have e:gI n 1=1:=by unfold gI;simp
 rw[e];simp
def awM:Mn:=⟨2,2,3,2⟩
def awZ:List Sg:=[cfS 0 3,mnS awM false,ntR 3 4]
def zy5:RdT [ntR 3 4] false:=.nn (T:=[]) 3 4 false .zz ⟨ac,ac⟩ ⟨ac,ac⟩
def zBF:rdE awM [ntR 3 4]=0:=ae
def zHq:usR false awM [ntR 3 4]=[96]:=ae
def zHr:RuK awZ [96]:=by
 have:=zBB (m:=awM) (b:=false) (.inr (.inl rfl)) zy5 ac ah zBF;rw[zHq]at this;exact this
def zHs:PrK [(nmX,awZ)] [voP awZ [96]]:=by
 refine⟨ac,rfl,λp N=>?_,λi p V N K=>?_,λi x h y H=>?_,.inr λV K=>?_⟩
 ·rw[w6.1 N];exact⟨zoG,.inr ⟨awM,false,[ntR 3 4],false,rfl,.inr (.inl rfl),zy5,ac⟩,(zpy zy5 ah).1.trans zBF⟩
 ·match i,N,K with
  |0,N,K=>injection N with N;injection K with K;subst N;subst K;exact⟨_,zHr,rfl⟩
  |i+1,N,K=>cases N
 ·match i,h with
  |0,h=>cases H
  |i+1,h=>cases h
 ·rw[w6.1 K,zeS zHr.n];decide
def zHt:∃x y:Sn,x.T=true/\scZ [(nmX,awZ)] [voP awZ [96]] 4=[⟨nmX,bkS (cxA awZ),[[x],[y]]⟩]:=⟨⟨false,clN 4,liL 8 64,true,0,2,0⟩,⟨false,clN 4,liL 8 32,false,0,2,0⟩,rfl,ae⟩
attribute [local irreducible] Pur yy yu Ex X Fn FnE Imp LeV LeB FnO It yA evL scZ voP bkS cxA rsK rusV rpV
def ze0:Fn prog 4 [] (.bool true):=by
 obtain⟨x,y,hx,e⟩:=zHt;have N:=zw0 zHs (m:=4) ac ac;rw[e]at N;have H:=zfl 4 1 ac ac;rw[zw2]at H;refine bB func4 ntmps4 (λg w d=>?_);refine gq ?_;refine bP (zu (enc:=sgE) (l:=awZ) sl24 ty69 ze69 ac rfl rfl rfl rfl ac ac (λ_=>rfl) rfl) rfl rfl ?_;refine ya ?_;refine yP ?_;refine bF ?_;apply bD;apply ye;refine yl (st':=⟨[(1,.ptr 1 0 0 0)],[(1,.box [.str nmX,sgsA awZ] 26)]⟩) kW ?_;refine y4 [2,3,11,12,13,14,15,16,17] [0,1,0,7,15,31,31,0,0,447,1023] mo ?_;refine yb ?_;refine ChM.step rfl rfl rfl (ztk (enc:=ptsE) (l:=[(nmX,awZ)]) sl41 ty26 ze26) rfl ?_;refine yI H ?_;refine yI N ?_;iterate 3 refine yb ?_
 refine ChM.step rfl rfl rfl (zd (k:=2) zc38) rfl ?_;refine ChM.step rfl rfl rfl (zd (k:=3) zc31) rfl ?_;refine zar 6 ⟨[(2,.ptr 2 0 0 0),(3,.ptr 3 0 0 0)],[(2,.box [iv 4,iv 1,.sl svE [⟨nmX,bkS (cxA awZ),[[x],[y]]⟩]] 38),(3,.box [iv 0,iv 0] 31)]⟩ (λQ K=>?_) (λQ K=>?_) ?_
 ·iterate 2 refine bF ?_
  exact yY kW K
 ·refine bF ?_;refine ya ?_;refine bF ?_;exact yY kW K
 apply yp;iterate 3 refine ya ?_
 refine bI 3 ?_;refine yw ?_;iterate 4 refine bE ?_
 iterate 2 refine yw ?_
 iterate 7 refine bE ?_
 iterate 2 refine yw ?_
 iterate 9 refine bE ?_
 iterate 2 refine yw ?_
 iterate 10 refine bE ?_
 refine ge ?_;all_goals(first|rfl|simp[hx])
def C_tactustop_TopScore(x y:List Int)(n:Int)(hx:∀a,a∈x->-9223372036854775808<=a/\a<=9223372036854775807)(hy:∀a,a∈y->-9223372036854775808<=a/\a<=9223372036854775807)(hn:-9223372036854775808<=n/\n<=9223372036854775807):Fn prog 3 [yj x,yj y,iv n] (.bool true):=by
 refine bB func3 ntmps3 (λg w d=>?_);refine gq ?_;refine zf ze0 ?_;refine yk ?_;apply ye;apply yc;iterate 3 refine ya ?_
 refine bI 3 ?_;refine yw ?_;iterate 3 refine bE ?_
 refine gf ?_ ?_<;>intro k3
 ·refine gq ?_;all_goals exact zR
 have j4:x.length<=6/\y.length<=6:=aa
 apply yf;apply yc;refine ya ?_;refine zaB [] (zbY x aa hx) (λz1=>?_);refine ya ?_;refine zaB [] (zbY y aa hy) (λz2=>?_);iterate 2 refine yP ?_
 iterate 2 refine bF ?_
 apply yp;refine ya ?_;refine bF ?_;apply yp;refine ya ?_;refine bF ?_;apply bD;apply ye;have E:=zwZ zoG z1.2;have xT:=zwZ zw1 z2.2;obtain⟨v1,f1,e1,k1⟩:=E;obtain⟨v2,f2,e2,k2⟩:=xT;refine yl (st':=⟨[(2,iv n),(7,.bool true),(8,.ptr 8 0 0 0),(9,.ptr 9 0 0 0)],[(8,.box [.str nmX,sgsA z1.1] 26),(9,.box [.str nmY,sgsA z2.1] 26)]⟩) kW ?_;refine gc e1 ?_;refine zf e2 ?_;iterate 3 refine ya ?_
 refine yP ?_;refine ya ?_;refine bF ?_;apply bD;apply ye;apply yc;iterate 3 refine ya ?_
 refine bI 3 ?_;refine yw ?_;iterate 3 refine bE ?_
 refine gf ?_ ?_<;>intro j3
 ·refine gq ?_;all_goals exact zR
 have r1:(rsK (rusV z1.1) 0).1=0:=aa
 have r2:(rsK (rusV z2.1) 0).1=0:=aa
 have q1:=k1 r1;have q2:=k2 r2;obtain⟨us1,u1,w1⟩:=q1;obtain⟨us2,u2,w2⟩:=q2
 have G:PrK [(nmX,z1.1),(nmY,z2.1)] [voP z1.1 us1,voP z2.1 us2]:=by
  refine⟨jG _,rfl,λp N=>?_,λi p V N K=>?_,zHp _ _,.inl rfl⟩
  ·rcases jW.1 N with rfl|N
   ·exact⟨zoG,z1.2,r1⟩
   ·rw[w6.1 N];exact⟨zw1,z2.2,r2⟩
  ·match i,N,K with
   |0,N,K=>injection N with N;injection K with K;subst N;subst K;exact⟨_,u1,rfl⟩
   |1,N,K=>injection N with N;injection K with K;subst N;subst K;exact⟨_,u2,rfl⟩
   |i+2,N,K=>cases N
 have x2:=zw0 G (m:=1+n%8) aa aa;have x1:=zBE G (m:=1+n%8) aa aa;have hT:=zfl (1+n%8) 1 aa ac;rw[zw2]at hT;have x0:Fn prog 11 [evsA (evL (voP z1.1 us1)),evsA v1] (.bool true):=by rw[w1];exact zbC _ (by rw[zj,zeS u1.n];have:=u1.l;omega)
 have v9:Fn prog 11 [evsA (evL (voP z2.1 us2)),evsA v2] (.bool true):=by rw[w2];exact zbC _ (by rw[zj,zeS u2.n];have:=u2.l;omega)
 have v8:=zdC nmX z1.1 (z1.2.pt zoG.n zoG.s) z1.2.r z1.2.sc;have v5:=zBC zoG z1.2 u1;have H:=zcR _ (u1.v z1.2);rw[u1.vu]at H;refine gq ?_;refine y4 [14,15,64,65,66,67,68,69,70,71,72,73,74] [0,0,3,0,8,24,56,127,255,511,511,0,0,7167,16383] mo ?_;iterate 2 refine yb ?_
 refine ChM.step rfl rfl rfl (ztk (enc:=ptsE) (l:=[(nmX,z1.1),(nmY,z2.1)]) sl41 ty26 ze26) rfl ?_;refine yb ?_;refine yI (zbf n 8 hn aa) ?_;refine yb ?_;refine yI hT ?_;refine yI x2 ?_;iterate 3 refine yb ?_
 refine ChM.step rfl rfl rfl (zd (k:=14) zc38) rfl ?_;refine ChM.step rfl rfl rfl (zd (k:=15) zc31) rfl ?_;refine zar 10 ⟨[(7,.bool true),(8,.ptr 8 0 0 0),(10,evsA v1),(12,evsA v2),(14,.ptr 14 0 0 0),(15,.ptr 15 0 0 0)],[(8,.box [.str nmX,sgsA z1.1] 26),(14,.box [iv (1+n%8),iv 1,.sl svE (scZ [(nmX,z1.1),(nmY,z2.1)] [voP z1.1 us1,voP z2.1 us2] (1+n%8))] 38),(15,.box [iv 0,iv 0] 31)]⟩ (λQ hQ=>?_) (λQ hQ=>?_) ?_
 ·iterate 2 refine bF ?_
  exact yY kW hQ
 ·refine bF ?_;refine ya ?_;refine bF ?_;exact yY kW hQ
 refine gd ?_ ?_<;>intro v4
 ·exact absurd rfl v4
 refine gq ?_;refine zf x1 ?_;iterate 2 refine ya ?_
 refine yo ?_;apply ye;apply yc;iterate 2 refine ya ?_
 refine bI 2 ?_;refine gq ?_;refine bT x0 ?_;refine gq ?_;refine bT v9 ?_;refine bE ?_;refine gf ?_ ?_<;>intro v3
 ·simp at v3
 refine gc v8 ?_;refine gc v5 ?_;refine zf H ?_;iterate 3 refine ya ?_
 refine yP ?_;refine bF ?_;refine yk ?_;apply ye;apply yc;iterate 3 refine ya ?_
 refine bI 3 ?_;refine yw ?_;iterate 2 refine bE ?_
 iterate 2 refine yw ?_
 iterate 2 refine bE ?_
 iterate 2 refine yw ?_
 iterate 3 refine bE ?_
 refine gf ?_ ?_<;>intro v0
 ·simp[r1]at v0
 apply yf;apply ye;apply yc;refine yk ?_;apply kX;refine y9 [7,16] (λk zz=>(25,iv (k:Int))::zz) [] (λ_ zz=>zz) 2 (λk hk=>?_);refine gd ?_ ?_<;>intro j2
 ·obtain⟨V,K⟩:∃V,([voP z1.1 us1,voP z2.1 us2])[k]? =some V:=⟨_,lgg aj⟩;have j1:=zbj K;have k9:=zj V;have k4:=(G.vs.k V (j6 K)).l;have j0:([voP z1.1 us1,voP z2.1 us2]:List (List Nu))[(k:Int).toNat]? =some V:=K;refine gq ?_;refine zf (zl0 [voP z1.1 us1,voP z2.1 us2] G.vs k V K) ?_;iterate 2 refine ya ?_
  refine yo ?_;apply ye;apply yc;iterate 2 refine ya ?_
  refine bI 2 ?_;refine yw ?_;iterate 8 refine bE ?_
  refine gf ?_ ?_<;>intro k8
  ·simp[k9]at k8
  apply yf;apply yc;refine yk ?_;apply kX;refine y9 [7,16,25,26] (λj zz=>(28,iv (j:Int))::zz) [] (λ_ zz=>zz) V.length (λj hk=>?_);refine gd ?_ ?_<;>intro k7
  ·obtain⟨u,hu⟩:∃u,V[j]? =some u:=⟨_,lgg (by simp at k7;omega)⟩;have k6:=zdJ hu;have hZ:((usV V).map tq)[(j:Int).toNat]? =some (tq u.u):=by rw[jN,j9,zxk hu];rfl
   have hY:(evL V)[(j:Int).toNat]? =some (evA V j u):=k6;refine gq ?_;refine y4 [181,182,183,184,185,186,187,188,189,190,191,192,193] [0,0,3,7,0,0,48,112,0,496,1008,2032,4095] mo ?_;(iterate 13 refine yb ?_);refine yD ?_;refine gd ?_ ?_<;>intro k5
   ·exact absurd rfl k5
   refine gq ?_;refine yr (j+1) (hI:=kW)
  ·refine gq ?_;refine yr (k+1) (hI:=kW)
 ·refine gq ?_;all_goals exact zR
end
end Go.Rse
