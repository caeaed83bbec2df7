/-
  Walks.
-/
import Derived.Test.YtpapdhoblekoeaaGreatDoorZJShelf3
import Derived.Lib.AppendZeros
set_option linter.all false
set_option maxHeartbeats 8000000
namespace Go.Rse
open Go Go.Proofs Go.Proofs.Tryz
attribute [local irreducible] Pur yy yu Ex X Fn Imp LeV LeB FnO It yA
section
variable{m:Md}{n s u:Int}
def liL:Nat->Int->List Md
 |0,_=>[]
 |n+1,u=>if u=0 then[]else lgV u::liL n (u-vuM (lgV u))
def okQ:Nat->Int->Bool
 |0,u=>decide (u=0)
 |n+1,u=>decide (u=0)||(decide (2<=u)&&decide (0<vuM (lgV u))&&decide (vuM (lgV u)<=u)&&okQ n (u-vuM (lgV u)))
def zwA{n:Nat}(h:okQ n u=true)(h0:u≠0):∃k,n=k+1/\2<=u/\(0<vuM (lgV u)/\vuM (lgV u)<=u)/\okQ k (u-vuM (lgV u))=true/\lgV u::liL k (u-vuM (lgV u))=liL n u:=by
 cases n<;>simp_all[okQ,liL]
def zGM(n:Nat):[]=liL n 0:=by cases n<;>simp[liL]
def zyv:∀(n:Nat)(u:Int),∀m∈liL n u,m.T=false
 |0,_,m,h=>by simp[liL]at h
 |n+1,u,m,h=>by
  simp only[liL]at h;split at h
  ·cases h
  ·rcases jW.1 h with rfl|h
   ·rfl
   ·exact zyv n _ m h
theorem znn:∀(n:Nat)(u:Int),okQ n u=true->((liL n u).map vuM).sum=u
 |0,u,h=>by simp[okQ]at h;simp[liL,h]
 |n+1,u,h=>by
  by_cases h0:u=0
  ·subst h0;simp[liL]
  ·obtain⟨k,e,_,_,hk,K⟩:=zwA h h0;have:k=n:=aa
   subst this;rw[←K,wW,List.sum_cons,znn k _ hk];omega
theorem ziy:∀(n:Nat)(u:Int),(liL n u).length<=n
 |0,_=>jG _
 |n+1,u=>by
  simp only[liL];split
  ·simp
  ·exact Nat.succ_le_succ (ziy n _)
def zyw:((List.range 64).all λk=>okQ 8 (2*(k+1:Nat)))=true:=by decide+kernel
def zwB(h0:0<u)(h1:u<=128)(K:u%2=0):okQ 8 u=true:=by
 have:=jF.1 zyw (u/2-1).toNat (uV.2 aa)
 grind
def zGN:-3<=(lgV u).P/\(lgV u).P<=6:=by
 have h:lgN u<=20:=List.findIdx_le_length;have:∀n≤20,-3<=(lgL.getD n (0,false)).1/\(lgL.getD n (0,false)).1<=6:=ac
 exact this _ h
def zp3:∀(n:Nat)(u:Int),∀m∈liL n u,-3<=m.P/\m.P<=6
 |0,_,m,h=>by simp[liL]at h
 |n+1,u,m,h=>by
  simp only[liL]at h;split at h
  ·cases h
  ·rcases jW.1 h with rfl|h
   ·exact zGN
   ·exact zp3 n _ m h
def zGO(h:m.T=false):(⟨m.P,m.D,false⟩:Md)=m:=by cases m;simp_all
def bgL(L:Int)(n:Nat):List Int:=(List.range n).map λ(k:Nat)=>(k:Int)*L
def zGP(L:Int)(k:Nat):(bgL L k).map tq++[tq ((k:Int)*L)]=(bgL L (k+1)).map tq:=by unfold bgL;rw[wR];simp
def zGQ(L:Int):[]=(bgL L 0).map tq:=rfl
def zqw(L:Int)(n:Nat):((bgL L n).map tq).length=n:=by unfold bgL;simp
def zqx{k:Int}(hk:0<=k)(h1:1<=n)(h:k*(16*n)<=1000000000)(H:k<=1000000)(G:n<=1000000):mulE ⟨k,1⟩ ⟨n,1⟩=0/\mulV ⟨k,1⟩ ⟨n,1⟩=tq (k*(16*n)):=by
 have hn:0<=k*n:=uU hk aa;have e:k*(16*n)=16*(k*n):=by rw[Int.mul_left_comm]
 rw[e]at h⊢;have g1:∀x,gI x 1=1:=λx=>by unfold gI;simp
 have hf:y5 [⟨k,1⟩,⟨n,1⟩]=0:=by rw[←zkq,←zkq];exact zmH ⟨aa,aa⟩ ⟨aa,aa⟩
 have hq:¬bigQ k 1 n 1:=by
  rintro(⟨h0,K⟩|⟨_,K⟩)
  ·have:=Int.lt_mul_of_ediv_lt h0 K;rw[Int.mul_comm]at this;omega
  ·omega
 grind[zo8,mulE,mulV,tmsE,tmsV]
def zty{k:Nat}(hk:k<=2000)(h1:1<=n)(K:n<=8):Fn prog 66 [tmA ⟨k,1⟩,tmA ⟨n,1⟩] (.tup [tmA (tq ((k:Int)*(16*n))),iv 0]):=by
 have H:(k:Int)*(16*n)<=2000*128:=xF aa aa aa aa;have h:=zfz ⟨k,1⟩ ⟨n,1⟩;rw[(zqx aa h1 aa aa aa).1,(zqx aa h1 aa aa aa).2]at h;exact h
def zA8(s:Int)(h1:1<=n)(K:n<=8):1<=(tq s).D*n/\(tq s).D*n<=128:=by
 rcases zg7 s with d|d|d|d|d<;>rw[d]<;>omega
def zGR(h0:0<=s)(h1:1<=n)(K:n<=8):(tq s).N*1/((tq s).D*n)=s/(16*n)/\(0<(tq s).N*1%((tq s).D*n)↔0<s%(16*n)):=by
 have e:=zqf s;have hn:n=1\/n=2\/n=3\/n=4\/n=5\/n=6\/n=7\/n=8:=aa
 rcases zg7 s with d|d|d|d|d<;>rw[d]at e⊢<;>rcases hn with q|q|q|q|q|q|q|q<;>subst q<;>omega
def bmN(s L:Int):Nat:=((s+L-1)/L).toNat
def bm_q(h0:0<=s)(h1:1<=n)(K:n<=8):(0<s%(16*n)->s/(16*n)+1=(bmN s (16*n):Int))/\(¬0<s%(16*n)->s/(16*n)=(bmN s (16*n):Int)):=by
 unfold bmN;have hn:n=1\/n=2\/n=3\/n=4\/n=5\/n=6\/n=7\/n=8:=aa
 rcases hn with q|q|q|q|q|q|q|q<;>subst q<;>omega
attribute [local irreducible] ckT addE addV tq cmpV vu lgV lgL liL okQ vuM bgL bmN mulE mulV
def zno(n:Nat)(u:Int)(G:Uq u)(hn:n<=8)(hk:okQ n u=true):FnO prog 145 [tmA (tq u),iv (n:Int)] [] [] (.tup [.own 90,.bool true]) [(90,.row mdE (liL n u) 165 3)]:=by
 induction n using Nat.strongRecOn generalizing u
 rename_i n ih;refine bR [] func145 ntmps145 (λg w d vs=>?_);refine gd ?_ ?_<;>intro H
 ·have xT:=(zuB u).1 H;have hL:=zGM n;rw[←xT]at hL;apply yc;refine yk ?_;refine bC ?_;refine zI (yz mdE 165 3 4 90 rfl rfl) ?_;refine zm4.mk (ts:=[(4,.own 90),(5,.bool true)]) (.inr rfl) (kW) (.many ac (.cons (.tmp rfl (kZ rfl)) (.cons (.tmp rfl (kZ rfl)) .nil)))
 have x2:=zwA hk (λe=>H ((zuB u).2 e));obtain⟨k,rfl,h2,hv,x1,hL⟩:=x2;have v9:=G.2;have x0:Uq (vuM (lgV u)):=⟨aa,aa⟩;have v8:=ziy k (u-vuM (lgV u));have K:=ih k aa (u-vuM (lgV u)) ⟨aa,aa⟩ aa x1;have e9:(((k+1:Nat):Int)-1)=(k:Int):=aa
 rw[←e9]at K;refine gq ?_;refine zf (zj5 u h2 G) ?_;iterate 4 refine ya ?_
 iterate 2 refine yP ?_
 iterate 2 refine bF ?_
 refine yk ?_;apply ye;apply yc;iterate 2 refine ya ?_
 refine bI 2 ?_;refine yw ?_;iterate 2 refine bE ?_
 refine gf ?_ ?_<;>intro w2
 ·(simp at w2;omega)
 refine gc (znJ G x0 rfl aa) ?_;refine y0 [(90,91)] K ?_;refine gq ?_;refine yH mdE [lgV u] ?_;refine y0 [(2000000,91),(2000001,41),(90,90)] (zaY (liL k (u-vuM (lgV u))) (lgV u) aa) ?_;refine yk ?_;refine bC ?_;refine zm4.mk (ts:=[(4,.own 90),(5,.bool true)]) (.inr rfl) (kW) (.many ac (.cons (.tmp rfl (kZ rfl)) (.cons (.tmp rfl (kZ rfl)) .nil)))
def zkU(u:Int)(hu:Uq u)(h0:u≠0)(hk:okQ 8 u=true):Fn prog 100 [tmA (tq u)] (.tup [.sl mdE (liL 8 u),iv 0]):=by
 have hc:=ziY hu;have v9:=ziy 8 u;refine bB func100 ntmps100 (λg w d=>?_);refine gc (zaz (tq u)) ?_;refine gd ?_ ?_<;>intro K
 ·exact absurd hc K
 refine gd ?_ ?_<;>intro H
 ·exact absurd ((zuB u).1 H) h0
 refine gc (zl1 u) ?_;refine gd ?_ ?_<;>intro G
 ·cases G
 refine gq ?_;refine y0 [(90,90)] (zno 8 u hu (jG _) hk) ?_;refine gd ?_ ?_<;>intro xT
 ·cases xT
 apply yf;apply ye;apply yc;refine yo ?_;apply kX;refine y9 [5,8,45] (λk zz=>(46,iv (k:Int))::zz) [90] (λ_ zz=>zz) ((liL 8 u).length) (λk hk=>?_);refine gd ?_ ?_<;>intro v8
 ·have x2:=@getX _ (liL 8 u) k aa;obtain⟨m,hm,x1⟩:=x2;have x0:=zGO (zyv 8 u m (j6 hm));have v5:(liL 8 u).set (k:Int).toNat ⟨m.P,m.D,false⟩=liL 8 u:=by rw[x0,jN];obtain⟨w2,e⟩:=j5.1 hm;rw[←e];exact List.set_getElem_self w2
  apply yf;apply ye;apply kX;apply yc;refine yC ?_;apply yd;iterate 5 refine ya ?_
  refine bF (hs:=y6 (n:=1) m ⟨m.P,m.D,false⟩ rfl rfl x1 (λ_=>rfl) ac rfl rfl rfl ac rfl rfl rfl TyK.h) ?_;refine gq ?_;refine yr (k+1) (hI:=kW)
 ·apply bH;apply yc;refine yo ?_;refine bC ?_;refine yi (kY (k:=90) rfl) ?_;refine yn ?_ ?_;all_goals rfl
def zkV(s n:Int)(h0:0<=s/\s<=60000)(h1:1<=n)(G:n<=8)(hb:bmN s (16*n)<=2000):Fn prog 97 [tmA (tq s),.agg [iv n,iv 1]] (.tup [tmsA ((bgL (16*n) (bmN s (16*n))).map tq),iv 0]):=by
 have xT:=zGR h0.1 h1 G;obtain⟨q1,q2⟩:=xT;have x2:=bm_q h0.1 h1 G;obtain⟨q3,q4⟩:=x2;have x0:=zA8 s h1 G;have hN:=zuA (u:=s) ⟨h0.1,aa⟩;refine bB func97 ntmps97 (λg w d=>?_);refine gq ?_;refine y4 [6,7,13,14,15,16,17,18,19,20,21,22] [0,1,0,4,15,0,32,0,128,480,31,2047] mo ?_;iterate 4 refine yb ?_
 refine yb (hs:=by exact zsM rfl rfl (wZ _ aa)) ?_;iterate 4 refine yb ?_
 refine yb (hs:=by exact zsM rfl rfl (wZ _ aa)) ?_;iterate 2 refine yb ?_
 refine yD ?_;apply yp;iterate 2 refine ya ?_
 refine ya (hs:=by exact zsN rfl rfl aa aa aa) ?_;refine yk ?_;refine zbm ⟨[(3,.ptr 3 0 0 0),(8,iv (bmN s (16*n):Int))],[(3,.box [iv n,iv 1] 35)]⟩ (λK=>?_) ?_
 ·apply yc;iterate 2 refine ya ?_
  refine ya (hs:=by exact zsO rfl rfl aa aa) ?_;refine gd ?_ ?_<;>intro H
  ·have hM:(tq s).N*1/((tq s).D*n)+1=(bmN s (16*n):Int):=by rw[q1];exact q3 (q2.1 H)
   apply yd;refine yo ?_;exact yl kW K
  ·have hM:(tq s).N*1/((tq s).D*n)=(bmN s (16*n):Int):=by rw[q1];exact q4 (λh=>absurd (q2.2 h) (kQ.2 H))
   apply yf;exact yl kW K
 refine gd ?_ ?_<;>intro w2
 ·omega
 apply yf;apply yc;refine yk ?_;iterate 2 apply ye
 refine yl (yz tmE 35 2 9 39 rfl rfl) ?_;apply yd;refine yC ?_;apply kX;have hz:=zGQ (16*n);refine y9 [3,9,34] (λk zz=>(35,iv (k:Int))::zz) [3] (λk zz=>(39,.row tmE ((bgL (16*n) k).map tq) 35 2)::zz) (bmN s (16*n)) (λk hk=>?_);refine gd ?_ ?_<;>intro v9
 ·have v8:=zGP (16*n) k;have v5:=zqw (16*n) k;refine gc (zty (k:=k) (n:=n) aa h1 G) ?_;refine gd ?_ ?_<;>intro x1
  ·exact absurd rfl x1
  refine gq ?_;refine yH tmE [tq ((k:Int)*(16*n))] ?_;refine gq ?_;refine yr (k+1) (hI:=kW)
 ·obtain rfl:k=bmN s (16*n):=aa
  apply bH;apply yc;refine yo ?_;refine bC ?_;refine yi (kY (k:=39) rfl) ?_;refine yn ?_ ?_;all_goals rfl
end
section
variable{L:Int}{k:Nat}{us:List Int}{x:Nu}
structure Pc where
 E:Int
 D:Tm
 V:List Md
 T:Bool
structure Ba where
 A:Tm
 P:List Pc
def pcE:Pc->List AV:=λp=>[iv p.E,iv p.D.N,iv p.D.D,.sl mdE p.V,.bool p.T]
def baE:Ba->List AV:=λb=>[iv b.A.N,iv b.A.D,.sl pcE b.P]
def reV(V:List Nu)(k:Nat):Bool:=(V.getD k default).R
def pcO(V:List Nu)(x:Nat×Int×Bool):Pc:=⟨x.1,tq x.2.1,liL 8 x.2.1,x.2.2&&!reV V x.1⟩
def baB(V:List Nu)(L:Int)(k:Nat):Ba:=⟨tq ((k:Int)*L),(brT (usV V) (brA (usV V) L k) (brA (usV V) L (k+1))).map (pcO V)⟩
def baL(V:List Nu)(L:Int)(n:Nat):List Ba:=(List.range n).map (baB V L)
def zGS(V:List Nu)(L:Int):[]=baL V L 0:=rfl
def zA9(V:List Nu)(L:Int)(n:Nat):baL V L n++[baB V L n]=baL V L (n+1):=by unfold baL;rw[wR];simp
def znp(V:List Nu)(L:Int)(n:Nat):(baL V L n).length=n:=by unfold baL;simp
def brP(us:List Int)(A B:Int)(n:Nat):List (Nat×Int×Bool):=(List.range' (nx us A) (n-nx us A)).map (pcT us A B)
section
variable{us:List Int}{n:Nat}{A B L:Int}
def zGT(us:List Int)(A B:Int):[]=brP us A B (nx us A):=by unfold brP;simp
def zGU(h:nx us A<=n):brP us A B n++[pcT us A B n]=brP us A B (n+1):=by
 unfold brP;have e:n+1-nx us A=n-nx us A+1:=aa
 simp_all[List.range'_concat]
def zyx(us:List Int)(A B:Int)(n:Nat):(brP us A B n).length=n-nx us A:=by unfold brP;simp
structure BpS(us:List Int)(A B:Int)(n:Nat):Prop where
 l:n<us.length
 d:max A (pf us n)<min B (pf us (n+1))
 on:B<pf us (n+1)->ns us B=n+1/\nx us B=n
 eq:pf us (n+1)=B->ns us B=n+1/\nx us B=n+1
 lt:pf us (n+1)<B->n+1<ns us B
def zBa(K:Pos us)(h0:0<=A)(H:A<B)(G:B<=us.sum)(h1:nx us A<=n)(h2:n<ns us B):BpS us A B n:=by
 obtain⟨a1,a2,a3⟩:=zgo K h0 (show A<us.sum by omega);obtain⟨b1,b2,b3,b4⟩:=zpb K (p:=B) aa G;have xT:=zhu K (k:=n) aa;have hA:=zca K (k:=nx us A+1) (n:=n+1) aa;have hn:=b3 n h2;have key:B<=pf us (n+1)->ns us B=n+1:=λh=>zrV K aa (λk hk=>b3 k aa) (.inr h)
 refine⟨aa,aa,λh=>⟨key aa,zdm K aa aa (.inr h)⟩,λh=>⟨key aa,zdm K aa aa ?_⟩,λh=>?_⟩
 ·rcases wH (n+1) us.length with q|q
  ·right;have:=zhu K (k:=n+1) q;omega
  ·left;omega
 grind
def zkd(he:∀u∈us,u%2=0):∀n,pf us n%2=0:=λn=>by
 unfold pf
 have:∀l:List Int,(∀u∈l,u%2=0)->l.sum%2=0:=λl=>by
  induction l with
  |nil=>intro _;rfl
  |cons a r ih=>
   intro h;have h1:=h a ah;have H:=ih λu K=>h u (wA _ K)
   rw[List.sum_cons];omega
 grind
end
def zwC(us:List Int)(L:Int):bmN us.sum L=brM us L:=rfl
def zGV(K:Pos us)(L:Int):((0:Nat):Int)=(nx us (brA us L 0):Int):=by
 have hs:=zi0 K;have:brA us L 0=0:=by unfold brA;simp;omega
 rw[this];cases us with
 |nil=>rfl
 |cons u r=>have:=K u ah;grind[nx]
def zwD(us:List Int)(L:Int)(k:Nat):(brA us L (k+1)=((k:Int)*L)+L\/brA us L (k+1)=us.sum)/\brA us L (k+1)<=(k:Int)*L+L:=by
 grind[brA]
def zBb{V:List Nu}(h:V[k]? =some x):reV V k=x.R:=by simp_all[reV]
def zwE{n:Nat}(h:k<n):((bgL L n).map tq)[k]? =some (tq ((k:Int)*L)):=by unfold bgL;simp[h]
attribute [local irreducible] ckT addE addV tq cmpV vu lgV lgL liL okQ vuM bgL bmN mulE mulV pf brA brP baB baL nx ns reV evL
def znq(V:List Nu)(h:VoK V)(he:∀u∈usV V,u%2=0)(m:Int)(h1:1<=m)(h8:m<=8)(hb:brM (usV V) (16*m)<=2000):Fn prog 50 [evsA (evL V),.agg [iv m,iv 1]] (.tup [.sl baE (baL V (16*m) (brM (usV V) (16*m))),iv 0]):=by
 have hs:=h.sum;have x0:=zkV (usV V).sum m hs h1 h8 (by rw[zwC];exact hb);rw[zwC]at x0;have hus:Uq (usV V).sum:=⟨hs.1,aa⟩;have k3:ckT ⟨m,1⟩=0:=by rw[←zkq];exact ziY ⟨aa,aa⟩
 have hbl:=zqw (16*m) (brM (usV V) (16*m));have hel:=zj V;have hul:(usV V).length=V.length:=jD ..;have hVl:=h.l;refine bB func50 ntmps50 (λg w d=>?_);refine gc (zcR V h) ?_;refine gd ?_ ?_<;>intro k2
 ·exact absurd rfl k2
 refine gc (zaz ⟨m,1⟩) ?_;refine gd ?_ ?_<;>intro j4
 ·exact absurd k3 j4
 refine gd ?_ ?_<;>intro hc3
 ·omega
 refine gc x0 ?_;refine gd ?_ ?_<;>intro j3
 ·exact absurd rfl j3
 apply yf;apply yc;refine yk ?_;apply ye;refine yl (yz baE 158 3 10 39 rfl rfl) ?_;apply yd;refine yk ?_;apply ye;refine X.label ?_;apply ye;apply yc;refine yo ?_;apply kX;have hz:=zGS V (16*m);have hnx:=zGV h.pos (16*m);refine y9 [0,6,9,10,49,50] (λk zz=>(11,iv (nx (usV V) (brA (usV V) (16*m) k):Int))::(51,iv (k:Int))::zz) [6] (λk zz=>(39,.row baE (baL V (16*m) k) 158 3)::zz) (brM (usV V) (16*m)) (λk hk=>?_);refine gd ?_ ?_<;>intro hc5
 ·have j2:=zi1 h.pos (show 0<16*m by omega) (i:=k) aa;obtain⟨G,xT,x2,v4⟩:=j2;obtain⟨A,x1⟩:∃A,A=brA (usV V) (16*m) k:=⟨_,rfl⟩;obtain⟨B,K⟩:∃B,B=brA (usV V) (16*m) (k+1):=⟨_,rfl⟩;have j1:=zwD (usV V) (16*m) k;rw[←x1]at G xT x2;rw[←K]at x2 v4 j1;have j0:Uq A:=⟨G,aa⟩;have k9:Uq B:=⟨aa,aa⟩;have hse:(usV V).sum%2=0:=by rw[←zaA];exact zkd he _
  have hke:((k:Int)*(16*m))%2=0:=by rw[Int.mul_left_comm];omega
  have ht1:((bgL (16*m) (brM (usV V) (16*m))).map tq)[(k:Int).toNat]? =some (tq A):=by rw[xT,jN];exact zwE aa
  have hna:(nx (usV V) (brA (usV V) (16*m) k):Int)=(nx (usV V) A:Int):=by rw[x1]
  apply yf;apply ye;apply kX;apply yc;iterate 3 refine ya ?_
  refine yP ?_;refine ya ?_;refine bF ?_;apply yp;refine ya ?_;refine yP ?_;refine bF ?_;apply bD;refine zbm ⟨[(0,evsA (evL V)),(6,.ptr 6 0 0 0),(9,tmsA ((bgL (16*m) (brM (usV V) (16*m))).map tq)),(10,.own 39),(11,iv (nx (usV V) A:Int)),(49,tmsA ((bgL (16*m) (brM (usV V) (16*m))).map tq)),(50,iv (brM (usV V) (16*m):Int)),(51,iv (k:Int)),(13,.ptr 13 0 0 0),(14,.ptr 14 0 0 0)],[(6,.box (tmE (tq ((usV V).sum))) 35),(39,.row baE (baL V (16*m) k) 158 3),(13,.box (tmE (tq (A))) 35),(14,.box (tmE (tq (B))) 35)]⟩ (λw2=>?_) ?_
  ·refine gd ?_ ?_<;>intro hc6
   ·have v3:B=((k+1:Nat):Int)*(16*m):=by
     rw[K];exact(zi1 h.pos (show 0<16*m by omega) (i:=k+1) aa).2.1
    have ht2:((bgL (16*m) (brM (usV V) (16*m))).map tq)[((k:Int)+1).toNat]? =some (tq B):=by rw[v3,show((k:Int)+1).toNat=k+1 by omega];exact zwE aa
    apply yd;(iterate 5 refine ya ?_);refine bF ?_;apply bD;exact yl kW w2
   ·have v3:(usV V).sum=B:=by
     have h9:¬k+1<brM (usV V) (16*m):=aa
     rw[zpc h.pos (show 0<16*m by omega)]at h9;rw[K];unfold brA;omega
    have hbx:tmE (tq (usV V).sum)=tmE (tq B):=by rw[v3]
    apply yf;exact yl kW w2
  apply yc;iterate 2 refine ya ?_
  refine yP ?_;refine bF ?_;apply bD;apply ye;apply kX;have hZ:=zGT (usV V) A B;have hn00:[]=(brP (usV V) A B (nx (usV V) A)).map (pcO V):=by rw[←hZ];rfl
  refine yl (zbV pcE 160 5 15 40 2 158 _ [iv (tq A).N,iv (tq A).D,.own 40] rfl rfl rfl rfl) ?_;refine zag (ι:=Nat) [0,6,9,10,49,50,51,13,14,15] (λ(n:Nat)zz=>(11,iv (n:Int))::zz) [6,39,13,14,15] (λ(n:Nat)zz=>(40,.row pcE ((brP (usV V) A B n).map (pcO V)) 160 5)::zz) (λ(n:Nat)=>nx (usV V) A<=n/\n<ns (usV V) B) (λ(n:Nat)=>ns (usV V) B-n) (nx (usV V) A) (λn hk=>?_) (hJ:=by exact⟨jG _,zrW h.pos G x2 v4⟩);obtain⟨n1,n2⟩:=hk;have H:=zBa h.pos G x2 v4 n1 n2;refine gd ?_ ?_<;>intro hc7
  ·obtain⟨x,hx⟩:∃x,V[n]? =some x:=⟨_,lgg (by have:=H.l;omega)⟩;have hY:=zdJ hx;have hx2:(evL V)[(n:Int).toNat]? =some (evA V n x):=ao hY
   have hd:=H.d;have hpe1:=zkd he n;have hpe2:=zkd he (n+1);have hpn:=h.pf n;have hpn1:=h.pf (n+1);have hX:Uq (min B (pf (usV V) (n+1))):=⟨aa,aa⟩;have hW:Uq (max A (pf (usV V) n)):=⟨aa,aa⟩;have hG:Uq (min B (pf (usV V) (n+1))-max A (pf (usV V) n)):=⟨aa,aa⟩;have hF:(⟨(n:Int),tq (min B (pf (usV V) (n+1))-max A (pf (usV V) n)),liL 8 (min B (pf (usV V) (n+1))-max A (pf (usV V) n)),decide (B<pf (usV V) (n+1))&&!x.R⟩:Pc)=pcO V (pcT (usV V) A B n):=by unfold pcO;dsimp only[pcT,pcg];rw[zBb hx]
   have hst:(brP (usV V) A B n).map (pcO V)++[(⟨(n:Int),tq (min B (pf (usV V) (n+1))-max A (pf (usV V) n)),liL 8 (min B (pf (usV V) (n+1))-max A (pf (usV V) n)),decide (B<pf (usV V) (n+1))&&!x.R⟩:Pc)]=(brP (usV V) A B (n+1)).map (pcO V):=by rw[hF,←zGU n1,kM];rfl
   have hpl:((brP (usV V) A B n).map (pcO V)).length<=60:=by rw[jD,zyx];have:=H.l;omega
   refine gq ?_;refine y4 [16,73,74,75,76,77,78,79,80,81,82,83,84,85,86] [0,0,3,7,15,0,0,96,224,480,1023,2047,4095,4095,0,24575,65535] mo ?_;(iterate 10 refine yb ?_);refine yI (zlD h hx) ?_;(iterate 3 refine yb ?_);refine ChM.step rfl rfl rfl (zd (k:=16) zc35) rfl ?_;refine zar 13 ⟨[(0,evsA (evL V)),(6,.ptr 6 0 0 0),(9,tmsA ((bgL (16*m) (brM (usV V) (16*m))).map tq)),(10,.own 39),(11,iv (n:Int)),(49,tmsA ((bgL (16*m) (brM (usV V) (16*m))).map tq)),(50,iv (brM (usV V) (16*m):Int)),(51,iv (k:Int)),(13,.ptr 13 0 0 0),(14,.ptr 14 0 0 0),(15,.ptr 15 0 0 0),(16,.ptr 16 0 0 0)],[(6,.box (tmE (tq ((usV V).sum))) 35),(39,.row baE (baL V (16*m) k) 158 3),(13,.box (tmE (tq (A))) 35),(14,.box (tmE (tq (B))) 35),(15,.box [iv (tq A).N,iv (tq A).D,.own 40] 158),(40,.row pcE ((brP (usV V) A B n).map (pcO V)) 160 5),(16,.box (tmE (tq (pf (usV V) (n+1)))) 35)]⟩ (λQ hQ=>?_) (λQ hQ=>?_) ?_
   ·refine bF ?_;refine ya ?_;exact yY kW hQ
   ·refine bF ?_;(iterate 2 refine ya ?_);exact yY kW hQ
   refine gq ?_;refine y4 [18,19,87,88] [0,0,0,0,13,31] mo ?_;(iterate 2 refine yb ?_);refine ChM.step rfl rfl rfl (zd (k:=18) zc35) rfl ?_;refine ChM.step rfl rfl rfl (zd (k:=19) zc35) rfl ?_;refine zar 1 ⟨[(0,evsA (evL V)),(6,.ptr 6 0 0 0),(9,tmsA ((bgL (16*m) (brM (usV V) (16*m))).map tq)),(10,.own 39),(11,iv (n:Int)),(49,tmsA ((bgL (16*m) (brM (usV V) (16*m))).map tq)),(50,iv (brM (usV V) (16*m):Int)),(51,iv (k:Int)),(13,.ptr 13 0 0 0),(14,.ptr 14 0 0 0),(15,.ptr 15 0 0 0),(16,.ptr 16 0 0 0),(18,.ptr 18 0 0 0),(19,.ptr 19 0 0 0)],[(6,.box (tmE (tq ((usV V).sum))) 35),(39,.row baE (baL V (16*m) k) 158 3),(13,.box (tmE (tq (A))) 35),(14,.box (tmE (tq (B))) 35),(15,.box [iv (tq A).N,iv (tq A).D,.own 40] 158),(40,.row pcE ((brP (usV V) A B n).map (pcO V)) 160 5),(16,.box (tmE (tq (pf (usV V) (n+1)))) 35),(18,.box (tmE (tq (A))) 35),(19,.box (tmE (tq (B))) 35)]⟩ (λQ hQ=>?_) (λQ hQ=>?_) ?_
   ·(iterate 2 refine bF ?_);exact yY kW hQ
   ·refine bF ?_;refine ya ?_;refine bF ?_;exact yY kW hQ
   apply bD;refine zbm ⟨[(0,evsA (evL V)),(6,.ptr 6 0 0 0),(9,tmsA ((bgL (16*m) (brM (usV V) (16*m))).map tq)),(10,.own 39),(11,iv (n:Int)),(49,tmsA ((bgL (16*m) (brM (usV V) (16*m))).map tq)),(50,iv (brM (usV V) (16*m):Int)),(51,iv (k:Int)),(13,.ptr 13 0 0 0),(14,.ptr 14 0 0 0),(15,.ptr 15 0 0 0),(16,.ptr 16 0 0 0),(18,.ptr 18 0 0 0),(19,.ptr 19 0 0 0)],[(6,.box (tmE (tq ((usV V).sum))) 35),(39,.row baE (baL V (16*m) k) 158 3),(13,.box (tmE (tq (A))) 35),(14,.box (tmE (tq (B))) 35),(15,.box [iv (tq A).N,iv (tq A).D,.own 40] 158),(40,.row pcE ((brP (usV V) A B n).map (pcO V)) 160 5),(16,.box (tmE (tq (pf (usV V) (n+1)))) 35),(18,.box (tmE (tq (max A (pf (usV V) n)))) 35),(19,.box (tmE (tq (B))) 35)]⟩ (λv9=>?_) ?_
   ·apply ye;refine y4 [89,90,91,92,93,94,95] [0,0,0,6,14,30,63] mo ?_;(iterate 6 refine yb ?_);refine yI (zdM A (pf (usV V) n) j0 (h.uq n)) ?_;refine yD ?_;refine gd ?_ ?_<;>intro hc8
    ·have hC:tmE (tq (pf (usV V) n))=tmE (tq (max A (pf (usV V) n))):=by congr 2;omega
     apply yd;(iterate 5 refine ya ?_);refine bF ?_;apply bD;exact yl kW v9
    ·have hC:tmE (tq A)=tmE (tq (max A (pf (usV V) n))):=by congr 2;omega
     apply yf;exact yl kW v9
   refine zbm ⟨[(0,evsA (evL V)),(6,.ptr 6 0 0 0),(9,tmsA ((bgL (16*m) (brM (usV V) (16*m))).map tq)),(10,.own 39),(11,iv (n:Int)),(49,tmsA ((bgL (16*m) (brM (usV V) (16*m))).map tq)),(50,iv (brM (usV V) (16*m):Int)),(51,iv (k:Int)),(13,.ptr 13 0 0 0),(14,.ptr 14 0 0 0),(15,.ptr 15 0 0 0),(16,.ptr 16 0 0 0),(18,.ptr 18 0 0 0),(19,.ptr 19 0 0 0)],[(6,.box (tmE (tq ((usV V).sum))) 35),(39,.row baE (baL V (16*m) k) 158 3),(13,.box (tmE (tq (A))) 35),(14,.box (tmE (tq (B))) 35),(15,.box [iv (tq A).N,iv (tq A).D,.own 40] 158),(40,.row pcE ((brP (usV V) A B n).map (pcO V)) 160 5),(16,.box (tmE (tq (pf (usV V) (n+1)))) 35),(18,.box (tmE (tq (max A (pf (usV V) n)))) 35),(19,.box (tmE (tq (min B (pf (usV V) (n+1))))) 35)]⟩ (λv8=>?_) ?_
   ·refine gc (zdM (pf (usV V) (n+1)) B (h.uq _) k9) ?_;refine gd ?_ ?_<;>intro hc9
    ·have h5:tmE (tq (pf (usV V) (n+1)))=tmE (tq (min B (pf (usV V) (n+1)))):=by congr 2;omega
     apply yd;refine ya ?_;refine bF ?_;apply bD;exact yl kW v8
    ·have h5:tmE (tq B)=tmE (tq (min B (pf (usV V) (n+1)))):=by congr 2;omega
     apply yf;exact yl kW v8
   refine gc (znJ hX hW rfl aa) ?_;refine gd ?_ ?_<;>intro k8
   ·exact absurd rfl k8
   refine gc (zkU _ hG aa (zwB aa aa aa)) ?_;refine gd ?_ ?_<;>intro k7
   ·exact absurd rfl k7
   refine gc (zdM B (pf (usV V) (n+1)) k9 (h.uq _)) ?_;refine y4 [125,126,127,128,129,130,131,132,133,134,135,136,137,138,139,140] [0,1,0,0,0,0,32,96,96,480,992,2016,4064,8160,16380,32764,65535,131071,262143] mo ?_;(iterate 7 refine yb ?_);(iterate 6 refine bL ?_);(iterate 2 refine yb ?_);refine ChM.step rfl rfl rfl (zx (k:=140) (enc:=pcE) (l:=[(⟨(n:Int),tq (min B (pf (usV V) (n+1))-max A (pf (usV V) n)),liL 8 (min B (pf (usV V) (n+1))-max A (pf (usV V) n)),decide (B<pf (usV V) (n+1))&&!x.R⟩:Pc)]) zts ztm zyd ac rfl rfl rfl rfl ac ac (λ_=>rfl) rfl) rfl ?_;refine yD ?_;refine gd ?_ ?_<;>intro k6
   ·have h4:=H.on k6;obtain⟨v2,v1⟩:=h4;have k5:(n:Int)=(nx (usV V) (brA (usV V) (16*m) (k+1)):Int):=by rw[←K,v1]
    have v0:(⟨tq A,(brP (usV V) A B (n+1)).map (pcO V)⟩:Ba)=baB V (16*m) k:=by unfold baB;rw[←x1,←K,←xT];unfold brT brP;rw[v2]
    have h39:baL V (16*m) k++[(⟨tq A,(brP (usV V) A B (n+1)).map (pcO V)⟩:Ba)]=baL V (16*m) (k+1):=by rw[v0];exact zA9 V (16*m) k
    have hll:=znp V (16*m) k;apply ye;refine yl (st':=⟨[(0,evsA (evL V)),(6,.ptr 6 0 0 0),(9,tmsA ((bgL (16*m) (brM (usV V) (16*m))).map tq)),(10,.own 39),(11,iv (n:Int)),(49,tmsA ((bgL (16*m) (brM (usV V) (16*m))).map tq)),(50,iv (brM (usV V) (16*m):Int)),(51,iv (k:Int)),(13,.ptr 13 0 0 0),(14,.ptr 14 0 0 0),(15,.ptr 15 0 0 0)],[(6,.box (tmE (tq ((usV V).sum))) 35),(39,.row baE (baL V (16*m) k) 158 3),(13,.box (tmE (tq (A))) 35),(14,.box (tmE (tq (B))) 35),(15,.box [iv (tq A).N,iv (tq A).D,.own 40] 158),(40,.row pcE ((brP (usV V) A B (n+1)).map (pcO V)) 160 5)]⟩) kW ?_;refine yl (st':=⟨[(0,evsA (evL V)),(6,.ptr 6 0 0 0),(9,tmsA ((bgL (16*m) (brM (usV V) (16*m))).map tq)),(10,.own 39),(11,iv (n:Int)),(49,tmsA ((bgL (16*m) (brM (usV V) (16*m))).map tq)),(50,iv (brM (usV V) (16*m):Int)),(51,iv (k:Int)),(13,.ptr 13 0 0 0),(14,.ptr 14 0 0 0),(15,.ptr 15 0 0 0)],[(6,.box (tmE (tq ((usV V).sum))) 35),(39,.row baE (baL V (16*m) k) 158 3),(13,.box (tmE (tq (A))) 35),(14,.box (tmE (tq (B))) 35),(15,.box [iv (tq A).N,iv (tq A).D,.sl pcE ((brP (usV V) A B (n+1)).map (pcO V))] 158)]⟩) ((kY (k:=40) rfl).trans yh) ?_;refine gq ?_;refine yH baE [(⟨tq A,(brP (usV V) A B (n+1)).map (pcO V)⟩:Ba)] ?_;refine gq ?_;refine yr (k+1) (hI:=kW)
   refine gd ?_ ?_<;>intro v5
   ·have hZ3:=H.eq (zrU v5);obtain⟨v2,v1⟩:=hZ3;have k5:(n:Int)+1=(nx (usV V) (brA (usV V) (16*m) (k+1)):Int):=by rw[←K,v1];omega
    have v0:(⟨tq A,(brP (usV V) A B (n+1)).map (pcO V)⟩:Ba)=baB V (16*m) k:=by unfold baB;rw[←x1,←K,←xT];unfold brT brP;rw[v2]
    have h39:baL V (16*m) k++[(⟨tq A,(brP (usV V) A B (n+1)).map (pcO V)⟩:Ba)]=baL V (16*m) (k+1):=by rw[v0];exact zA9 V (16*m) k
    have hll:=znp V (16*m) k;apply bH;refine yl (st':=⟨[(0,evsA (evL V)),(6,.ptr 6 0 0 0),(9,tmsA ((bgL (16*m) (brM (usV V) (16*m))).map tq)),(10,.own 39),(11,iv ((n:Int)+1)),(49,tmsA ((bgL (16*m) (brM (usV V) (16*m))).map tq)),(50,iv (brM (usV V) (16*m):Int)),(51,iv (k:Int)),(13,.ptr 13 0 0 0),(14,.ptr 14 0 0 0),(15,.ptr 15 0 0 0)],[(6,.box (tmE (tq ((usV V).sum))) 35),(39,.row baE (baL V (16*m) k) 158 3),(13,.box (tmE (tq (A))) 35),(14,.box (tmE (tq (B))) 35),(15,.box [iv (tq A).N,iv (tq A).D,.own 40] 158),(40,.row pcE ((brP (usV V) A B (n+1)).map (pcO V)) 160 5)]⟩) kW ?_;refine yl (st':=⟨[(0,evsA (evL V)),(6,.ptr 6 0 0 0),(9,tmsA ((bgL (16*m) (brM (usV V) (16*m))).map tq)),(10,.own 39),(11,iv ((n:Int)+1)),(49,tmsA ((bgL (16*m) (brM (usV V) (16*m))).map tq)),(50,iv (brM (usV V) (16*m):Int)),(51,iv (k:Int)),(13,.ptr 13 0 0 0),(14,.ptr 14 0 0 0),(15,.ptr 15 0 0 0)],[(6,.box (tmE (tq ((usV V).sum))) 35),(39,.row baE (baL V (16*m) k) 158 3),(13,.box (tmE (tq (A))) 35),(14,.box (tmE (tq (B))) 35),(15,.box [iv (tq A).N,iv (tq A).D,.sl pcE ((brP (usV V) A B (n+1)).map (pcO V))] 158)]⟩) ((kY (k:=40) rfl).trans yh) ?_;refine gq ?_;refine yH baE [(⟨tq A,(brP (usV V) A B (n+1)).map (pcO V)⟩:Ba)] ?_;refine gq ?_;refine yr (k+1) (hI:=kW)
   have k4:=H.lt (by
    have h9:pf (usV V) (n+1)≠B:=λe=>v5 (by rw[e])
    omega)
   apply yf;refine yr (n+1) (hJ:=by exact⟨aa,k4⟩) (hI:=kW)
  ·exact absurd H.l aa
 ·obtain rfl:k=brM (usV V) (16*m):=aa
  apply bH;apply yc;refine yo ?_;refine bC ?_;refine yi (kY (k:=39) rfl) ?_;refine yn ?_ ?_;all_goals rfl
end
end Go.Rse
namespace Go.Rse
open Go Go.RowKit Go.Proofs.Tryz
variable{C:Ctx}{st:St}
section
variable{P:Program}{C:Ctx}{st:St}{ty:TypeId}{Q:Exit->St->Prop}
variable{E:TypeId}{ag:Bool}{kn:IntKind}{p:Int}{s:Nat}{t:TypeId}{x y:Operand}{z:Value}
def zdw(hx:ev st x=some .nils)(h:slOk P t E=true):
 Pur P C (.call {callee:=.builtin .cap,args:= #[x],argTypes:= #[t]}) ty st (.int .i64 0):=λg a w dst pos af gd hr=>
 ⟨.int .i64 0,by
  have e:=zbG (yq hr hx);simp[execOp,resolve,invoke,builtin,Builtin.cap_,e,run_underlying (yS h)];rfl,.int _ _⟩
def zhr(hx:ev st x=some .nils)(K:ev st y=some (.int .i64 0))(h:slOk P t E=true)(hE:tyOk P E ag s=true):
 Pur P C (.slice t x none (some y) none) ty st .nils:=λg a w dst pos af gd hr=>by
 have ex:=zbG (yq hr hx);have ey:=yK (yq hr K);refine⟨.slice none 0 0,?_,.nils⟩
 have:(Instr.sliceBounds true 0 0 none (some (.int .i64 0)) none).run P w=.ok (0,0,0) w:=by
  rfl
 simp[execOp,Instr.sliceAt,Instr.slice,run_underlying (yS h),ex,ey,this,yJ hE]
def anyE(s:Nat):Unit->List AV:=λ_=>List.replicate s .any
def zof{tn:TypeId}{bytes n k:Nat}(ht:slOk P t E=true)(G:P.underlying tn=some (.int kn))(hi:y7 P E z s bytes)(hs:0<s)(xT:bytes<=1024)
 (hx:ev st x=some .nils)(hy:ev st y=some (.int .i64 p))(hp:p=(n:Int))(h0:0<n)(hn:n<=4000000000):yy P C (.call {callee:=.builtin .append,args:= #[x,y],argTypes:= #[t,tn]}) ty st (.own k) (some (k,.row (anyE s) (List.replicate n ()) E s)):=
 zM λg a w dst pos af gd hr=>by
  obtain⟨i,x2,x1,v4,x0,K⟩:=hi;subst hp;have hu:=yS ht;have ex:=zbG (yq hr hx);have ey:=yK (yq hr hy)
  have v3:n*bytes<=140737488355328:=by
   have:n*bytes<=4000000000*1024:=kG hn xT;omega
  have w2:n<=maxLen:=by simp only[maxLen];omega
  have v9:=grownCap_ge w n 0 E;have v8:=grownCap_le_maxLen w n 0 E w2;have v2:=Go.Lib.run_append_nil_zeros (P:=P) w t tn ty E i z .i64 kn hu G x2 x1 n h0 aa aa (by rw[x0];omega);have hg:Grow w (w.drew.alloc (.cells (Builtin.zeroCells z.cells n++Builtin.zeroCells z.cells (grownCap w n 0 E-n)) E)):=(Grow.drew w).trans (c9 _ _);have v5:∀(i:Nat)x,(List.replicate n ())[i]? =some x->(anyE s x).length=s:=λi x _=>by simp[anyE]
  refine⟨.slice (some ⟨w.heap.size,0,none⟩) n (grownCap w n 0 E),_,g.nw C.d w.heap.size k (.slice (some ⟨w.heap.size,0,none⟩) n (grownCap w n 0 E)),?_,Add.nw hg C.d k _,.own k _ _ _ (by simp[Gh.nw]),ImOB.nw ⟨hr.sat.im,hr.sat.ob⟩ hg ah C.d k _,λk' B hB=>?_⟩
  ·simp_all[execOp,resolve,invoke,builtin]
  ·injection hB with hB;injection hB with e1 e2;subst e1;subst e2;refine⟨(Builtin.zeroCells z.cells n).toList,?_,v5,λj x q c v hx hc hv=>?_,λb H=>?_⟩
   ·simp only[Gh.nw,if_true,vA];refine⟨by rw[xP,size_zeroCells,K],.inr ⟨w.heap.size,grownCap w n 0 E,_,rfl,jU _,heap_alloc_new w.drew _,v9,v8,?_,?_⟩⟩
    ·simp only[Array.size_append,size_zeroCells,K,←Nat.add_mul];congr 1;omega
    simp_all[size_zeroCells]
   ·have:c=.any:=by
     simp_all[anyE,uS]
    subst this;exact .any _
   ·simp only[Gh.nw,if_true,yT]at H;injection H with H;subst H;exact⟨by simp[Gh.nw],.inl hr.ext.size⟩
end
def zmi{α β:Type}(enc':β->List AV)(k E s:Nat){enc:α->List AV}{l:List α}(h:lk st.h k=some (.row enc l E s))(hl:l=[]):Imp C st {t:=st.t,h:=(k,.row enc' [] E s)::st.h}:=λg a w hr=>by
 subst hl;obtain⟨xs,h1,H,G,K⟩:=hr.sat.blk k _ h;exact⟨_,hr.withBlk (k:=k) (B:=.row enc' [] E s) ⟨xs,h1,λi x h=>by simp at h,λi x j c v h=>by simp at h,K⟩⟩
end Go.Rse
namespace Go.Rse
open Go Go.Proofs Go.Proofs.Tryz
attribute [local irreducible] Pur yy yu Ex X Fn Imp LeV LeB FnO It yA
section
variable{α:Type}
structure Sn where
 R:Bool
 P:Pt
 V:List Md
 T:Bool
 Ab:Int
 S:Int
 Ps:Int
structure Bk where
 K:Int
 F:Int
 T:Int
 deriving DecidableEq
def snE:Sn->List AV:=λs=>[.bool s.R,iv s.P.Step,iv s.P.Oct,iv s.P.Alt,.sl mdE s.V,.bool s.T,.iny .i64,iv s.S,iv s.Ps]
def bkE:Bk->List AV:=λb=>[iv b.K,iv b.F,iv b.T]
def snsE:List Sn->List AV:=λl=>[.sl snE l]
def bksE:List Bk->List AV:=λl=>[.sl bkE l]
instance:EncK snE 9:=⟨λ_=>rfl⟩
instance:EncK snsE 1:=⟨λ_=>rfl⟩
instance:Inhabited Sn:=⟨⟨false,default,[],false,0,0,0⟩⟩
def flG(L:List (List α))(k:Nat):List α:=(L.take k).flatten
section
variable{α:Type}{L:List (List α)}{k:Nat}{s:List α}
def zog(h:L[k]? =some s):flG L k++s=flG L (k+1):=by
 unfold flG;rw[jK,h];simp
def zwF(L:List (List α)):[]=flG L 0:=rfl
def zwG(L:List (List α)):flG L L.length=L.flatten:=by simp[flG]
def zgR(L:List (List α))(k:Nat):(flG L k).length<=L.flatten.length:=by
 grind[List.take_append_drop,flG]
end
attribute [local irreducible] FnW FnOW FnP FnD
attribute [local irreducible] flG
def zaC(n:Int)(h0:0<=n)(hn:n<=1000000):FnO prog 101 [.nils,iv n] [] [] (.own 5) [(5,.row snE [] 77 9)]:=by
 refine bR [] func101 ntmps101 (λg w d vs=>?_);refine gd ?_ ?_<;>intro K
 ·omega
 apply yf;apply ye;apply yc;iterate 2 refine ya ?_
 refine ya (hs:=zdw rfl SlK.h) ?_;refine gd ?_ ?_<;>intro H
 ·apply yd;iterate 2 refine ya ?_
  refine ya (hs:=zdw rfl SlK.h) ?_;refine ya (hs:=zhr rfl rfl SlK.h TyK.h) ?_;refine gq ?_;refine bP (zof (k:=5) (n:=n.toNat) SlK.h Tryz.underlying3 TiK.h ac ac rfl rfl aa aa aa) rfl rfl ?_;refine gq ?_;refine yX (zjB rfl rfl rfl SlK.h TyK.h aa aj rfl) ?_;refine ya ?_;apply yp;refine yC ?_;refine bC ?_;refine zI (zmi (enc:=anyE 9) (l:=(List.replicate n.toNat ()).take (0:Int).toNat) snE 5 77 9 (by exact rfl) ah) ?_;refine zm4.mk (ts:=[(4,.own 5)]) (.inr rfl) (yh) (.one (.tmp rfl (kZ rfl)))
 ·apply yf;apply yc;refine yC ?_;refine bC ?_;refine zI (yz snE 77 9 4 5 rfl rfl) ?_;refine zm4.mk (ts:=[(4,.own 5)]) (.inr rfl) (yh) (.one (.tmp rfl (kZ rfl)))
def zau(L:List (List Sn))(hL:L.length<=1000000)(hf:L.flatten.length<=1000000):Fn prog 52 [.sl snsE L] (.sl snE L.flatten):=by
 have G:[]=flG L 0:=zwF L;have x0:(0:Int)=((flG L 0).length:Int):=by rw[←G];rfl
 refine bB func52 ntmps52 (λg w d=>?_);apply yc;refine ya ?_;apply yp;refine yk ?_;apply ye;apply yc;refine yo ?_;apply kX;refine y9 [0,2,9,10] (λk zz=>(3,iv ((flG L k).length:Int))::(11,iv (k:Int))::zz) [] (λ_ zz=>zz) L.length (λk hk=>?_);refine gd ?_ ?_<;>intro w2
 ·have K:=@getX _ L k aa;obtain⟨s,hs,xT⟩:=K;have H:=zog hs;have x2:=zgR L (k+1);have x1:((flG L (k+1)).length:Int)=((flG L k).length:Int)+(s.length:Int):=by rw[←H];simp
  refine gd ?_ ?_<;>intro v9
  ·omega
  refine gq ?_;refine yr (k+1) (hI:=kW)
 ·obtain rfl:k=L.length:=aa
  refine gq ?_;refine y0 [(5,30)] (zaC ((flG L L.length).length:Int) aa (by have:=zgR L L.length;omega)) ?_;refine yk ?_;apply ye;apply yc;refine yo ?_;apply kX;refine zag (ι:=Nat) [2,6,25,26] (λ(k:Nat)zz=>(27,iv (k:Int))::zz) [] (λ(k:Nat)zz=>(30,.row snE (flG L k) 77 9)::zz) (λ(k:Nat)=>k<=L.length) (λ(k:Nat)=>L.length-k) 0 (λk hk=>?_) (hJ:=by exact jU _);refine gd ?_ ?_<;>intro v8
  ·have K:=@getX _ L k aa;obtain⟨s,hs,xT⟩:=K;have H:=zog hs;have x2:=zgR L (k+1);have x1:((flG L (k+1)).length:Int)=((flG L k).length:Int)+(s.length:Int):=by rw[←H];simp
   apply yf;apply ye;apply kX;apply yc;refine yo ?_;apply yd;(iterate 2 refine ya ?_);refine yX (zaw (l:=flG L k) (l2:=s) rfl rfl rfl SlK.h TiK.h ac ac (λ_=>rfl) (λ_=>rfl) aa rfl) ?_;refine gq ?_;refine yr (k+1) (hI:=kW)
  ·obtain rfl:k=L.length:=aa
   have hV:=zwG L;apply bH;apply yc;refine yC ?_;refine bC ?_;refine yi (kY (k:=30) rfl) ?_;refine gq ?_;all_goals(first|exact jA (λz=>AV.sl snE z) hV|rfl)
def zaV(n:Int)(h0:0<=n)(hn:n<=1000000):FnO prog 139 [.nils,iv n] [] [] (.own 5) [(5,.row bkE [] 142 3)]:=by
 refine bR [] func139 ntmps139 (λg w d vs=>?_);refine gd ?_ ?_<;>intro K
 ·omega
 apply yf;apply ye;apply yc;iterate 2 refine ya ?_
 refine ya (hs:=zdw rfl SlK.h) ?_;refine gd ?_ ?_<;>intro H
 ·apply yd;iterate 2 refine ya ?_
  refine ya (hs:=zdw rfl SlK.h) ?_;refine ya (hs:=zhr rfl rfl SlK.h TyK.h) ?_;refine gq ?_;refine bP (zof (k:=5) (n:=n.toNat) SlK.h Tryz.underlying3 TiK.h ac ac rfl rfl aa aa aa) rfl rfl ?_;refine gq ?_;refine yX (zjB rfl rfl rfl SlK.h TyK.h aa aj rfl) ?_;refine ya ?_;apply yp;refine yC ?_;refine bC ?_;refine zI (zmi (enc:=anyE 3) (l:=(List.replicate n.toNat ()).take (0:Int).toNat) bkE 5 142 3 (by exact rfl) ah) ?_;refine zm4.mk (ts:=[(4,.own 5)]) (.inr rfl) (yh) (.one (.tmp rfl (kZ rfl)))
 ·apply yf;apply yc;refine yC ?_;refine bC ?_;refine zI (yz bkE 142 3 4 5 rfl rfl) ?_;refine zm4.mk (ts:=[(4,.own 5)]) (.inr rfl) (yh) (.one (.tmp rfl (kZ rfl)))
def zaN(L:List (List Bk))(hL:L.length<=1000000)(hf:L.flatten.length<=1000000):Fn prog 94 [.sl bksE L] (.sl bkE L.flatten):=by
 have G:[]=flG L 0:=zwF L;have x0:(0:Int)=((flG L 0).length:Int):=by rw[←G];rfl
 refine bB func94 ntmps94 (λg w d=>?_);apply yc;refine ya ?_;apply yp;refine yk ?_;apply ye;apply yc;refine yo ?_;apply kX;refine y9 [0,2,9,10] (λk zz=>(3,iv ((flG L k).length:Int))::(11,iv (k:Int))::zz) [] (λ_ zz=>zz) L.length (λk hk=>?_);refine gd ?_ ?_<;>intro w2
 ·have K:=@getX _ L k aa;obtain⟨s,hs,xT⟩:=K;have H:=zog hs;have x2:=zgR L (k+1);have x1:((flG L (k+1)).length:Int)=((flG L k).length:Int)+(s.length:Int):=by rw[←H];simp
  refine gd ?_ ?_<;>intro v9
  ·omega
  refine gq ?_;refine yr (k+1) (hI:=kW)
 ·obtain rfl:k=L.length:=aa
  refine gq ?_;refine y0 [(5,30)] (zaV ((flG L L.length).length:Int) aa (by have:=zgR L L.length;omega)) ?_;refine yk ?_;apply ye;apply yc;refine yo ?_;apply kX;refine zag (ι:=Nat) [2,6,25,26] (λ(k:Nat)zz=>(27,iv (k:Int))::zz) [] (λ(k:Nat)zz=>(30,.row bkE (flG L k) 142 3)::zz) (λ(k:Nat)=>k<=L.length) (λ(k:Nat)=>L.length-k) 0 (λk hk=>?_) (hJ:=by exact jU _);refine gd ?_ ?_<;>intro v8
  ·have K:=@getX _ L k aa;obtain⟨s,hs,xT⟩:=K;have H:=zog hs;have x2:=zgR L (k+1);have x1:((flG L (k+1)).length:Int)=((flG L k).length:Int)+(s.length:Int):=by rw[←H];simp
   apply yf;apply ye;apply kX;apply yc;refine yo ?_;apply yd;(iterate 2 refine ya ?_);refine yX (zaw (l:=flG L k) (l2:=s) rfl rfl rfl SlK.h TiK.h ac ac (λ_=>rfl) (λ_=>rfl) aa rfl) ?_;refine gq ?_;refine yr (k+1) (hI:=kW)
  ·obtain rfl:k=L.length:=aa
   have hV:=zwG L;apply bH;apply yc;refine yC ?_;refine bC ?_;refine yi (kY (k:=30) rfl) ?_;refine gq ?_;all_goals(first|exact jA (λz=>AV.sl bkE z) hV|rfl)
end
section
variable{B:List Bool}{L:List (Int×Int)}{P:Program}{f:Int}{k:Nat}{l:List Int}{p:Int×Int}{x:Int}{zs:List AV}{α:Type}{τ:Go.Shelf.Ren}
def cmpI(a b:Int):Int:=if a<b then-1 else if b<a then 1 else 0
def orV:List Int->Int
 |[]=>0
 |x::r=>if x=0 then orV r else x
theorem zBc(h:l[k]? =some x):orV (l.drop k)=if x=0 then orV (l.drop (k+1))else x:=by
 grind[List.drop_eq_getElem_cons,orV]
def lxC(a b:Int×Int×Int):Int:=orV [cmpI a.1 b.1,cmpI a.2.1 b.2.1,cmpI a.2.2 b.2.2]
theorem zwH(a b:Int×Int×Int):lxC a b<0↔a.1<b.1\/a.1=b.1/\(a.2.1<b.2.1\/a.2.1=b.2.1/\a.2.2<b.2.2):=by
 grind[lxC,cmpI,orV]
def zoh(a b:Int×Int×Int):0<=lxC a b↔¬(a.1<b.1\/a.1=b.1/\(a.2.1<b.2.1\/a.2.1=b.2.1/\a.2.2<b.2.2)):=by rw[←zwH];omega
def zGW(a:Int×Int×Int):lxC a a=0:=by
 simp[lxC,cmpI,orV]
def zkW(L:SlLaysF0.n6 P τ)(K:zy P (τ.f 6)=true)(enc:α->List AV)(s:Nat)(G:0<s)(E:TypeId)(l:List α)(H:l.length<=4000000000)(g:FuncId)(key:α->Int×Int×Int)
 (aE:∀w,(isAgg (τ.t 24)).run P w=.ok true w)(zE:∀w,(Go.sizeOf (τ.t 24)).run P w=.ok s w)(he:∀x,(enc x).length=s)(h1:∀x c,c∈enc x->zpz c=true)
 (xT:∀x∈l,∀y∈l,Fn P g [.agg (enc x),.agg (enc y)] (iv (lxC (key x) (key y))))(hi:∀x∈l,∀y∈l,key x=key y->x=y):
 FnO P (τ.f 6) [.own 2000000,.fn g []] [(2000000,.row enc l E s)] [2000000] (.tup []) [(2000000,.row enc (l.mergeSort (leOf λx y=>lxC (key x) (key y))) E s)]:=
 zuZ L K enc s G E l H (· ∈l) (λx y=>lxC (key x) (key y)) g aE zE he h1 (λx y hx hy=>xT x hx y hy) (λx hx=>hx)
  (λx _=>zGW _)
  (λx y z _ _ _ a b=>by rw[zwH]at*;omega)
  (λx y z _ _ _ a b=>by rw[zoh]at*;omega)
  (λx y hx hy a b=>hi x hx y hy (by rw[zoh]at*;exact Prod.ext aa (Prod.ext aa aa)))
  (λx y _ _=>by rw[zoh,zoh];omega)
def zd6:List Bool->List AV:=λl=>[.sl zak l]
def urS(B:List Bool):Nat->Int×List (Int×Int)
 |0=>(-1,[])
 |k+1=>if decide ((k:Int)<(B.length:Int))&&!(B.getD (k:Int).toNat default)then(if(urS B k).1<0 then((k:Int),(urS B k).2)else urS B k)else if 0<=(urS B k).1 then(-1,(urS B k).2++[((urS B k).1,(k:Int))])else urS B k
def urV(B:List Bool):List (Int×Int):=(urS B (B.length+1)).2
def urX(B:List Bool):List (List AV):=(urV B).map λp=>[iv p.1,iv p.2]
theorem zoi(B:List Bool)(k:Nat):∀d,(urS B k).2<+:(urS B (k+d)).2
 |0=>vJ
 |d+1=>by
  refine(zoi B k d).trans ?_
  grind[urS]
theorem zqy(B:List Bool):∀k,k<=B.length+1->-1<=(urS B k).1/\(urS B k).1<k/\(0<=(urS B k).1->k<=B.length)/\(urS B k).2.length<=k/\∀p∈(urS B k).2,0<=p.1/\p.1<p.2/\p.2<=B.length
 |0,_=>by simp[urS]
 |k+1,h=>by
  obtain⟨h1,K,H,G,h5⟩:=zqy B k aa
  grind[urS]
def zwI(h:p∈urV B):0<=p.1/\p.1<p.2/\p.2<=B.length:=(zqy B (B.length+1) (jG _)).2.2.2.2 p h
def ztz(B:List Bool):(urV B).length<=B.length+1:=(zqy B (B.length+1) (jG _)).2.2.2.1
theorem zoj(B:List Bool):(urX B).length=(urV B).length:=by unfold urX;simp
def zkX(h:(urX B)[k]? =some zs):∃p,(urV B)[k]? =some p/\zs=[iv p.1,iv p.2]:=by
 grind[urX]
def urG(B:List Bool)(k:Nat):Bool:=decide ((k:Int)<(B.length:Int))&&!(B.getD (k:Int).toNat default)
def zGX(h:urS B k=(f,L))(c:urG B k=true)(hf:f<0):urS B (k+1)=((k:Int),L):=by grind[urS,urG]
def zGY(h:urS B k=(f,L))(c:urG B k=true)(hf:¬f<0):urS B (k+1)=(f,L):=by grind[urS,urG]
def zGZ(h:urS B k=(f,L))(c:urG B k=false)(hf:0<=f):urS B (k+1)=(-1,L++[(f,(k:Int))]):=by simp_all[urS,urG]
def zG0(h:urS B k=(f,L))(c:urG B k=false)(hf:¬0<=f):urS B (k+1)=(f,L):=by simp_all[urS,urG,j8]
def zG1(h:urS B (k+1)=(-1,L++[(f,(k:Int))]))(hk:k<=B.length):(urX B)[L.length]? =some [iv f,iv (k:Int)]:=by
 have h1:=zoi B (k+1) (B.length-k);rw[show k+1+(B.length-k)=B.length+1 by omega,h]at h1;unfold urX urV;rw[j9,zrK h1];rfl
attribute [local irreducible] ItX zaJ ntI urS urX
def zdU(x:Int):Fn prog 137 [iv x] (.bool false):=by
 refine bB func137 ntmps137 (λg w d=>?_);refine gq ?_;all_goals(simp)
def zm(x y:Int):Fn prog 91 [iv x,iv y] (iv (cmpI x y)):=by
 refine bB func91 ntmps91 (λg w d=>?_);refine gc (zdU x) ?_;refine gc (zdU y) ?_;refine gd ?_ ?_<;>intro K
 ·refine gd ?_ ?_<;>intro H
  ·refine gq ?_;all_goals(first|(simp[cmpI, *];done)|(simp_all[cmpI];done)|(unfold cmpI;simp;omega))
  refine gq ?_;all_goals(first|(simp[cmpI, *];done)|(simp_all[cmpI];done)|(unfold cmpI;simp;omega))
 refine gd ?_ ?_<;>intro G
 ·refine gq ?_;all_goals(first|(simp[cmpI, *];done)|(simp_all[cmpI];done)|(unfold cmpI;simp;omega))
 refine gd ?_ ?_<;>intro xT
 ·refine gq ?_;all_goals(first|(simp[cmpI, *];done)|(simp_all[cmpI];done)|(unfold cmpI;simp;omega))
 refine gd ?_ ?_<;>intro x2
 ·refine gq ?_;all_goals(first|(simp[cmpI, *];done)|(simp_all[cmpI];done)|(unfold cmpI;simp;omega))
 refine gq ?_;all_goals(first|(simp[cmpI, *];done)|(simp_all[cmpI];done)|(unfold cmpI;simp;omega))
def zdx(l:List Int)(hl:l.length<=4000000000):Fn prog 90 [yj l] (iv (orV l)):=by
 refine bB func90 ntmps90 (λg w d=>?_);apply yc;refine ya ?_;apply yp;refine yk ?_;apply ye;apply yc;refine yo ?_;apply kX;refine zag (ι:=Nat) [3,6,7] (λ(k:Nat)zz=>(8,iv (k:Int))::zz) [] (λ(k:Nat)zz=>zz) (λ(k:Nat)=>k<=l.length/\orV l=orV (l.drop k)) (λ(k:Nat)=>l.length-k) 0 (λk hk=>?_) (hJ:=by exact⟨aa,rfl⟩);obtain⟨x2,K⟩:=hk;refine gd ?_ ?_<;>intro x1
 ·have H:=@getX _ l k aa;obtain⟨x,hx,x0⟩:=H;have ho:=zBc hx;refine gd ?_ ?_<;>intro G
  ·have hV:orV l=x:=by rw[K,ho,j8 G]
   refine gq ?_;all_goals rw[hV]
  have xT:orV l=orV (l.drop (k+1)):=by rw[K,ho,j7 aa]
  refine gq ?_;refine yr (k+1) (hJ:=by exact⟨aa,xT⟩) (hI:=kW)
 ·obtain rfl:k=l.length:=aa
  have hV:orV l=0:=by rw[K,uD];rfl
  refine gq ?_;all_goals rw[hV]
def zdy(a b:Bk):Fn prog 45 [.agg (bkE a),.agg (bkE b)] (iv (lxC (a.F,-a.T,a.K) (b.F,-b.T,b.K))):=by
 have H:orV [cmpI a.F b.F,cmpI b.T a.T,cmpI a.K b.K]=lxC (a.F,-a.T,a.K) (b.F,-b.T,b.K):=by unfold lxC cmpI;grind
 refine bB func45 ntmps45 (λg w d=>?_);refine gq ?_;refine y4 [4,5,6,7,8,9,10,11,12,13,14,15,16,17,18,19,20,21] [0,1,0,4,15,0,32,0,128,511,0,1024,0,4096,16383,32767,65535,131071] mo ?_;iterate 4 refine yb ?_
 refine yI (zm a.F b.F) ?_;iterate 4 refine yb ?_
 refine yI (zm b.T a.T) ?_;iterate 4 refine yb ?_
 refine yI (zm a.K b.K) ?_;refine ChM.step rfl rfl rfl (ztk (enc:=intE) (l:=[cmpI a.F b.F,cmpI b.T a.T,cmpI a.K b.K]) sl22 ty3 ze3) rfl ?_;refine yI (zdx [cmpI a.F b.F,cmpI b.T a.T,cmpI a.K b.K] ah) ?_;refine yb ?_;refine yD ?_;refine gq ?_;all_goals rw[H]
def zgS(nm:ByteArray)(z:List Sg)(h:PtK nm z):Fn prog 84 [.agg [.str nm,sgsA z]] (.tup [.nils,.nils,iv 0]):=by
 have hl:=h.hl;refine bB func84 ntmps84 (λg w d=>?_);refine gc (zcd nm z h.hs h.hn h.hl h.hk) ?_;refine gd ?_ ?_<;>intro K
 ·exact absurd rfl K
 apply yf;apply yc;refine yC ?_;apply ye;apply yc;refine ya ?_;refine yo ?_;apply kX;refine y9 [1,7,8,20] (λk zz=>(21,iv (k:Int))::zz) [1] (λ_ zz=>zz) z.length (λk hk=>?_);refine gd ?_ ?_<;>intro x2
 ·have H:=@getX _ z k aa;obtain⟨s,hs,x1⟩:=H;have G:=(h.at hs).2;refine gd ?_ ?_<;>intro xT
  ·refine gq ?_;refine yr (k+1) (hI:=kW)
  exact absurd xT G
 ·refine gq ?_;refine bJ (.many ac (.cons (.tmp rfl (kZ ?_)) (.cons (.tmp rfl (kZ ?_)) (.cons (.tmp rfl (kZ ?_)) .nil))));all_goals exact zR
def zgT(s:Sg):Fn prog 125 [sgA s] (.bool (tmd s)):=by
 refine bB func125 ntmps125 (λg w d=>?_);apply yc;refine zl ?_;refine ya ?_;apply yp;iterate 3 refine ya ?_
 refine bI 3 ?_;refine yw ?_;iterate 3 refine bE ?_
 iterate 2 refine yw ?_
 iterate 3 refine bE ?_
 refine ge ?_;all_goals rfl
def zhJ(z:List Sg)(hl:z.length<=4000):Fn prog 85 [sgsA z] (yj (ntI z z.length)):=by
 refine bB func85 ntmps85 (λg w d=>?_);apply yc;refine ya ?_;apply yp;refine yk ?_;iterate 2 apply ye
 refine yl (yz intE 3 1 3 30 rfl rfl) ?_;apply yd;refine yo ?_;apply kX;have hz:=zCr z;refine y9 [3,6,7] (λk zz=>(8,iv (k:Int))::zz) [] (λk zz=>(30,.row intE (ntI z k) 3 1)::zz) z.length (λk hk=>?_);refine gd ?_ ?_<;>intro xT
 ·have H:=@getX _ z k aa;obtain⟨s,hs,x2⟩:=H;have x1:=zlE z k;refine gc (zgT s) ?_;refine gd ?_ ?_<;>intro K
  ·have G:=zzy hs K;refine gq ?_;refine yH intE [_] ?_;refine gq ?_;refine yr (k+1) (hI:=kW)
  ·have G:=zzz hs K;refine gq ?_;refine yr (k+1) (hI:=kW)
 ·obtain rfl:k=z.length:=aa
  apply bH;apply yc;refine yC ?_;refine bC ?_;refine yi (kY (k:=30) rfl) ?_;refine gq ?_;all_goals rfl
def zfQ(nm:ByteArray)(z:List Sg)(h:PtK nm z)(hok:ScOk z):Fn prog 42 [.agg [.str nm,sgsA z]] (.tup [.sl bkE [],iv 0]):=by
 refine bB func42 ntmps42 (λg w d=>?_);refine gc (zab nm z h hok) ?_;refine gd ?_ ?_<;>intro K
 ·exact absurd rfl K
 refine gc (zgS nm z h) ?_;refine gd ?_ ?_<;>intro H
 ·exact absurd rfl H
 refine gq ?_
 refine ze8 (ι:=Nat) (λ(k:Nat)=>[(9,.nils),(29,.nils),(30,iv 0),(31,iv 0)]) (λ(k:Nat)=>[]) (λ(k:Nat)=>k=0) (λ(k:Nat)=>1) 0 (λk hk=>?_) (hJ:=by
  rfl) (h0:=by exact kW)
 refine gd ?_ ?_<;>intro G
 ·exact absurd G ac
 apply bH;apply yc;refine yo ?_;refine bC ?_;refine yi (yh (ts:=[(2,.sl bkE []),(3,iv 0)]) (hs:=[])) ?_;refine yn ?_ ?_;all_goals rfl
def zeX(nm:ByteArray)(z:List Sg)(i:Int)(s:Sg)(hs:z[i.toNat]? =some s)(h0:0<=i)(K:s.Color=false):Fn prog 87 [iv i,.ept (λ_:Unit=>[.str nm,sgsA z]) () 0] (.bool false):=by
 have hi:=(j5.1 hs).1;refine bB func87 ntmps87 (λg w d=>?_);refine gq ?_;all_goals rw[K]
def zfr(nm:ByteArray)(z:List Sg)(I:List Int):Fn prog 86 [yj I,.fn 87 [.ept (λ_:Unit=>[.str nm,sgsA z]) () 0]] (.fn 126 [.ept (λ_:Unit=>[yj I]) () 0,.ept (λ_:Unit=>[.fn 87 [.ept (λ_:Unit=>[.str nm,sgsA z]) () 0]]) () 0]):=by
 refine bB func86 ntmps86 (λg w d=>?_);apply yc;iterate 2 refine zax ?_
 refine ya ?_;apply yp;refine yC ?_;refine bC ?_;refine yi ((bG (k:=2) rfl rfl).trans (bG (k:=3) rfl rfl)) ?_;refine gq ?_;all_goals rfl
def zeY(B:List Bool):Fn prog 82 [.sl zak B,.fn 83 []] (.fn 124 [.ept (λ_:Unit=>[.sl zak B]) () 0,.ept (λ_:Unit=>[.fn 83 []]) () 0]):=by
 refine bB func82 ntmps82 (λg w d=>?_);apply yc;iterate 2 refine zax ?_
 refine ya ?_;apply yp;refine yC ?_;refine bC ?_;refine yi ((bG (k:=2) rfl rfl).trans (bG (k:=3) rfl rfl)) ?_;refine gq ?_;all_goals rfl
def zd7(nm:ByteArray)(z:List Sg)(I:List Int)(hI:I.length<=4000)(hC:∀i∈I,Fn prog 87 [iv i,.ept (λ_:Unit=>[.str nm,sgsA z]) () 0] (.bool false)):It prog 126 [.ept (λ_:Unit=>[yj I]) () 0,.ept (λ_:Unit=>[.fn 87 [.ept (λ_:Unit=>[.str nm,sgsA z]) () 0]]) () 0] ([]):=by
 have K:∀k:Int,0<=k->k<(I.length:Int)->Fn prog 87 [iv (I.getD k.toNat default),.ept (λ_:Unit=>[.str nm,sgsA z]) () 0] (.bool false):=λk h0 h1=>hC _ (by
  rw[jB,lgg (show k.toNat<I.length by omega)];exact wK _)
 refine zc1 func126 ntmps126 (λg w d ds Y lY hY=>?_);apply yc;refine ya ?_;apply yp;refine yk ?_;apply kX;refine y9 [0,1,2,4] (λk zz=>(5,iv (k:Int))::zz) [1000000] (λ_ zz=>zz) (I.length+1) (λk hk=>?_);refine gd ?_ ?_<;>intro x2
 ·refine gq ?_;refine y4 [6,13,14,15,16,17,18,19,20,21,22,23,24] [0,0,2,7,15,31,31,31,223,479,1023,2047,4095] mo ?_;iterate 5 refine yb ?_
  iterate 5 refine bL ?_
  refine ChM.cp (λH=>(K (k:Int) aa H)) ?_;iterate 2 refine yb ?_
  refine yD ?_;apply bD;apply ye;apply yc;refine ya ?_;refine bI 1 ?_;refine yw ?_;iterate 2 refine bE ?_
  refine gf ?_ ?_<;>intro G
  ·simp at G
  apply yf;apply yc;iterate 2 refine ya ?_
  refine bI 2 ?_;refine yw ?_;iterate 2 refine bE ?_
  refine gf ?_ ?_<;>intro xT
  ·(have h9:=xT.2;omega)
  refine gq ?_;refine yr (k+1) (hI:=kW)
 ·apply bH;refine⟨.inl rfl,_,true,rfl,λ_=>rfl⟩
def zfR(nm:ByteArray)(z:List Sg)(h:PtK nm z)(hok:ScOk z)(hc:∀s∈z,s.Color=false):Fn prog 43 [.agg [.str nm,sgsA z]] (.tup [.sl bkE [],iv 0]):=by
 have hl:=h.hl;have x2:=zlE z z.length
 have hC:∀i∈ntI z z.length,Fn prog 87 [iv i,.ept (λ_:Unit=>[.str nm,sgsA z]) () 0] (.bool false):=λi hi=>by
  have H:=jL.1 hi;obtain⟨k,hk⟩:=H;have G:=zn0 hk;obtain⟨n,s,rfl,hs,_⟩:=G;exact zeX nm z n s (by rw[jN];exact hs) aa (hc s (j6 hs))
 refine bB func43 ntmps43 (λg w d=>?_);refine gc (zab nm z h hok) ?_;refine gd ?_ ?_<;>intro xT
 ·exact absurd rfl xT
 refine gq ?_;refine zf (zhJ z aa) ?_;refine yP ?_;refine bF ?_;apply yp;refine yP ?_;apply bD;iterate 2 apply ye
 refine yl (bG (k:=1) rfl rfl) ?_;refine gc (zfr nm z (ntI z z.length)) ?_;refine bV (sl:=[7]) (λj=>([.ptr 7 0 0 0],[(7,.box [.nils] 70)])) (λj=>True) 900001 900002 rfl rfl ac (λj zs K=>by simp at K) ((zd7 nm z (ntI z z.length) aa hC)) trivial rfl rfl ac (jU _) ah (λj zs K=>by simp at K) (λ_=>rfl) rfl rfl (λl o us=>kW) (trivial) (λj zs K hJ l ready busy rb vs g w hb x1=>?_) (λhJ=>?_)
 ·simp at K
 apply yc;refine yo ?_;refine bC ?_;refine yi (yh (ts:=[(2,.sl bkE []),(3,iv 0)]) (hs:=[])) ?_;refine yn ?_ ?_;all_goals rfl
def zfs(b:Bool):Fn prog 83 [.bool b] (.bool (!b)):=by
 refine bB func83 ntmps83 (λg w d=>?_);refine gq ?_;all_goals exact zR
def zd0(B:List Bool)(hB:B.length<=4000):It prog 124 [.ept (λ_:Unit=>[.sl zak B]) () 0,.ept (λ_:Unit=>[.fn 83 []]) () 0] (urX B):=by
 have hz:urS B 0=(-1,[]):=by unfold urS;rfl
 have x0:=zoj B;refine zc1 func124 ntmps124 (λg w d ds Y lY hY=>?_);apply yc;refine ya ?_;apply yp;refine yk ?_;apply kX;refine zag (ι:=Nat×Int×List (Int×Int)) [0,1,2] (λ(q:Nat×Int×List (Int×Int))zz=>(4,iv q.2.1)::(5,iv (q.1:Int))::zz) [] (λ(q:Nat×Int×List (Int×Int))zz=>(1000000,.yld q.2.2.length true)::zz) (λ(q:Nat×Int×List (Int×Int))=>q.1<=B.length+1/\urS B q.1=(q.2.1,q.2.2)) (λ(q:Nat×Int×List (Int×Int))=>B.length+1-q.1) (0,-1,[]) (λq hk=>?_) (hJ:=by exact⟨jU _,hz⟩);obtain⟨k,f,L⟩:=q;dsimp only at*
 obtain⟨w2,K⟩:=hk;refine gd ?_ ?_<;>intro v9
 ·refine gq ?_;refine y4 [6,13,14,15,16,17,18,19,20,21,22,23,24] [0,0,2,7,15,31,31,31,223,479,1023,2047,4095] mo ?_;iterate 5 refine yb ?_
  iterate 5 refine bL ?_
  refine bZ (zfs _) ?_;refine yb (x:=.bool (urG B k)) ?_ (hs:=by exact ztb rfl rfl);refine yb ?_;refine yD ?_;apply bD;apply ye;apply yc;refine ya ?_;refine bI 1 ?_;refine yw ?_;iterate 2 refine bE ?_
  refine gf ?_ ?_<;>intro H
  ·have hS:=zGX K H.1 H.2;apply yd;(iterate 2 refine ya ?_);apply yp;(iterate 2 refine ya ?_);refine bI 2 ?_;refine yw ?_;(iterate 2 refine bE ?_);refine gf ?_ ?_<;>intro xT
   ·(rw[H.1]at xT;exact absurd xT.1 ac)
   refine gq ?_;refine yr ((k+1,(k:Int),L)) (hJ:=by exact⟨aa,hS⟩) (hm:=by(show B.length+1-(k+1)<B.length+1-k;omega)) (hI:=kW)
  ·apply yf;apply yc;(iterate 2 refine ya ?_);refine bI 2 ?_;refine yw ?_;(iterate 2 refine bE ?_);refine gf ?_ ?_<;>intro G
   ·have hS:=zGZ K G.1 G.2;apply ye;apply yc;(iterate 3 refine ya ?_);refine bX hY rfl rfl rfl (bK _) rfl rfl (zG1 hS aa) rfl (λb=>?_);refine gd ?_ ?_<;>intro x2
    ·subst x2;refine bC ?_;refine⟨.inr rfl,_,false,rfl,λhb=>by simp at hb⟩
    subst x2;have v8:L.length+1=(L++[(f,(k:Int))]).length:=ah
    refine gq ?_;refine yr ((k+1,-1,L++[(f,(k:Int))])) (hJ:=by exact⟨aa,hS⟩) (hm:=by(show B.length+1-(k+1)<B.length+1-k;omega)) (hI:=kW)
   ·have hS:urS B (k+1)=(f,L):=by
     cases hg:urG B k with
     |true=>exact zGY K hg (by rcases H with h9|h9;rw[hg]at h9;cases h9;omega)
     |false=>exact zG0 K hg (by rcases G with h9|h9;rw[hg]at h9;cases h9;omega)
    refine gq ?_;refine yr ((k+1,f,L)) (hJ:=by exact⟨aa,hS⟩) (hm:=by(show B.length+1-(k+1)<B.length+1-k;omega)) (hI:=kW)
 ·obtain rfl:k=B.length+1:=aa
  have x1:L.length=(urX B).length:=by rw[x0];unfold urV;rw[K]
  apply bH;refine⟨.inl rfl,_,true,rfl,λ_=>x1⟩
end
section
variable{M:List Int}
structure Par where
 items:List Ite
 now:List Int
 made:List Int
 deriving DecidableEq
def parE:Par->List AV:=λp=>[itsA p.items,yj p.now,yj p.made]
abbrev parA(p:Par):AV:=.agg (parE p)
abbrev zdV(l:List Par):AV:=.sl parE l
def parM(p:Par)(c:Int):Par:={p with now:=p.now++[c]}
def cgP(m:Mn)(k:Int)(p:Par):Bool:=decide (segE m k p.items=0)
def cgS(m:Mn)(k:Int)(l:List Par):List Par:=l.filter (cgP m k)
def cgN(m:Mn)(k:Int)(l:List Par):Int:=l.foldl (λa p=>if segE m k p.items=0 then((segV m k p.items).length:Int)else a) 0
section
variable{m:Mn}{k:Int}{l:List Par}{n:Nat}{p:Par}
variable{B:Nat}
def zG2(h:l[n]? =some p)(h0:segE m k p.items=0):cgS m k (l.take n)++[p]=cgS m k (l.take (n+1))/\((segV m k p.items).length:Int)=cgN m k (l.take (n+1)):=by
 rw[jK,h];refine⟨?_,?_⟩
 ·unfold cgS;rw[uO];simp[cgP,h0]
 ·unfold cgN;rw[List.foldl_append];simp[h0]
def zG3(h:l[n]? =some p)(h0:¬segE m k p.items=0):cgS m k (l.take n)=cgS m k (l.take (n+1))/\cgN m k (l.take n)=cgN m k (l.take (n+1)):=by
 rw[jK,h];refine⟨?_,?_⟩
 ·unfold cgS;rw[uO];simp[cgP,h0]
 ·unfold cgN;rw[List.foldl_append];simp[h0]
def zkY(m:Mn)(k:Int)(l:List Par):(cgS m k l).length<=l.length:=uA _ _
def zok(m:Mn)(k:Int):∀(l:List Par),(∀p∈l,p.items.length<=B)->0<=cgN m k l/\cgN m k l<=2*B+2:=by
 intro l hl;unfold cgN
 have key:∀(l:List Par)(a:Int),(∀p∈l,p.items.length<=B)->(0<=a/\a<=2*B+2)->0<=l.foldl (λa p=>if segE m k p.items=0 then((segV m k p.items).length:Int)else a) a/\l.foldl (λa p=>if segE m k p.items=0 then((segV m k p.items).length:Int)else a) a<=2*B+2:=by
  intro l
  induction l with
  |nil=>intro a _ h;exact h
  |cons p r ih=>
   intro a K h;rw[x9];refine ih _ (λq H=>K q (wA _ H)) ?_;split
   ·have h1:=za8 m k p.items;have G:=K p ah;omega
   ·exact h
 exact key l 0 hl ⟨aa,aa⟩
end
def br1(m:Mn)(k:Int)(p:Par):List Par:=(alV m k p.items p.now).map (parM p)
def brF(m:Mn)(k:Int)(l:List Par):List Par:=l.flatMap (br1 m k)
def zol(m:Mn)(k:Int)(l:List Ite)(M:List Int):(alV m k l M).length<=5:=by
 unfold alV;split
 ·exact zoV _ _ _ _ _ _
 ·simp
def ztA(m:Mn)(k:Int)(p:Par):(br1 m k p).length<=5:=by unfold br1;rw[jD];exact zol _ _ _ _
def zkZ(m:Mn)(k:Int):∀(l:List Par),(brF m k l).length<=5*l.length
 |[]=>by simp[brF]
 |p::r=>by
  have:=zkZ m k r;have:=ztA m k p;unfold brF at*
  rw[uH,jJ,w5];omega
structure PB(a b c:Nat)(p:Par):Prop where
 i:p.items.length<=a
 n:p.now.length<=b
 d:p.made.length<=c
def zwJ{m:Mn}{k:Int}{a b c:Nat}{l:List Par}(h:∀p∈l,PB a b c p):∀p∈brF m k l,PB a (b+1) c p:=by
 intro p K;unfold brF at K;obtain⟨q,H,K⟩:=x4.1 K;unfold br1 at K;obtain⟨x,hx,rfl⟩:=jS.1 K;have:=h q H;exact⟨this.i,by show(q.now++[x]).length<=_;rw[jJ];have:=this.n;simp;omega,this.d⟩
def zwK{m:Mn}{k:Int}{a b c:Nat}{l:List Par}(h:∀p∈l,PB a b c p):∀p∈cgS m k l,PB a b c p:=λp K=>h p (wG.1 K).1
def brX(m:Mn)(k:Int):Nat->List Par->List Par×Int
 |0,l=>(l,0)
 |n+1,l=>if 4096<(brF m k l).length then([],15)else brX m k n (brF m k l)
def ap1(m:Mn)(k:Int)(p:Par):Par:=⟨apV m k p.items p.now,[],p.made++p.now⟩
def alvR(m:Mn)(k:Int)(l:List Par):List Par×Int:=brX m k (cgN m k l).toNat (cgS m k l)
def alvE(m:Mn)(k:Int)(l:List Par):Int:=(alvR m k l).2
def alvV(m:Mn)(k:Int)(l:List Par):List Par:=if alvE m k l=0 then(alvR m k l).1.map (ap1 m k)else[]
def brN(m:Mn)(k:Int)(l:List Par):Nat->List Par
 |0=>cgS m k l
 |n+1=>brF m k (brN m k l n)
def zqz(m:Mn)(k:Int):∀(n:Nat)(l:List Par),(brX m k n l).2=0\/(brX m k n l).2=15
 |0,l=>.inl rfl
 |n+1,l=>by
  unfold brX;split
  ·exact .inr rfl
  ·exact zqz m k n _
structure BrJ(m:Mn)(k:Int)(l:List Par)(n:Nat):Prop where
 le:n<=(cgN m k l).toNat
 go:alvR m k l=brX m k ((cgN m k l).toNat-n) (brN m k l n)
def BrJ.z(m:Mn)(k:Int)(l:List Par):BrJ m k l 0:=⟨jU _,by unfold alvR;rw[vY];rfl⟩
section
variable{m:Mn}{k:Int}{l:List Par}{n:Nat}
def BrJ.s(h:BrJ m k l n)(hn:n<(cgN m k l).toNat)(K:(brF m k (brN m k l n)).length<=4096):BrJ m k l (n+1):=by
 refine⟨hn,?_⟩;rw[h.go,show(cgN m k l).toNat-n=((cgN m k l).toNat-(n+1))+1 by omega];conv=>lhs;unfold brX
 rw[j8 aa];rfl
def BrJ.bad(h:BrJ m k l n)(hn:n<(cgN m k l).toNat)(K:4096<(brF m k (brN m k l n)).length):alvE m k l=15/\alvV m k l=[]:=by
 have e:alvR m k l=([],15):=by
  rw[h.go,show(cgN m k l).toNat-n=((cgN m k l).toNat-(n+1))+1 by omega];conv=>lhs;unfold brX
  rw[j7 K]
 have e2:alvE m k l=15:=by unfold alvE;rw[e]
 refine⟨e2,?_⟩;unfold alvV;rw[e2];rfl
def BrJ.fin(h:BrJ m k l n)(hn:n=(cgN m k l).toNat):alvE m k l=0/\(brN m k l n).map (ap1 m k)=alvV m k l:=by
 have e:alvR m k l=(brN m k l n,0):=by rw[h.go,hn,Nat.sub_self];rfl
 have e2:alvE m k l=0:=by unfold alvE;rw[e]
 refine⟨e2,?_⟩;unfold alvV;rw[e2,j7 rfl,e]
end
def ztB(m:Mn)(k:Int)(l:List Par):alvE m k l=0\/alvE m k l=15:=zqz _ _ _ _
def zqA{m:Mn}{k:Int}{a c:Nat}{l:List Par}(h:∀p∈l,PB a 0 c p):∀n,∀p∈brN m k l n,PB a n c p
 |0=>zwK h
 |n+1=>zwJ (zqA h n)
def zqB{m:Mn}{k:Int}:∀(n:Nat)(l:List Par),l.length<=4096->(brX m k n l).2=0->(brX m k n l).1.length<=4096
 |0,l,h,_=>h
 |n+1,l,h,h0=>by
  unfold brX at h0⊢;split
  ·simp
  ·rename_i K;rw[j8 K]at h0;exact zqB n _ aa h0
def zqC{m:Mn}{k:Int}{a c:Nat}:∀(n b:Nat)(l:List Par),(∀p∈l,PB a b c p)->∀p∈(brX m k n l).1,PB a (b+n) c p
 |0,b,l,h=>h
 |n+1,b,l,h=>by
  unfold brX;split
  ·simp
  ·intro p K;have:=zqC n (b+1) _ (zwJ h) p K
   rwa[show b+1+n=b+(n+1)by omega]at this
def zyy{m:Mn}{k:Int}{l:List Ite}:(apV m k l M).length<=l.length:=by
 by_cases h:apE m k l M=0
 ·rw[zig h];exact jG _
 ·unfold apV;rw[j8 h];simp
def zqD{m:Mn}{k:Int}{a c:Nat}{l:List Par}(hl:l.length<=4096)(h:∀p∈l,PB a 0 c p):(alvV m k l).length<=4096/\∀p∈alvV m k l,PB a 0 (c+(2*a+2)) p:=by
 unfold alvV;split
 ·rename_i h0;have hN:=zok m k (B:=a) l λp H=>(h p H).i
  refine⟨?_,λp H=>?_⟩
  ·rw[jD];exact zqB _ _ (jV (zkY m k l) hl) h0
  ·obtain⟨q,G,rfl⟩:=jS.1 H;have K:PB a (0+(cgN m k l).toNat) c q:=zqC _ _ _ (zwK h) q G;refine⟨jV zyy K.i,jG _,?_⟩;show(q.made++q.now).length<=_;rw[jJ];have:=K.n;have:=K.d;omega
 ·exact⟨ah,ah⟩
def cmL(m:Mn):List Int->List Par->List Par×Int
 |[],l=>(l,0)
 |k::r,l=>if alvE m k l=0 then cmL m r (alvV m k l)else([],15)
def cmI(m:Mn)(l:List Sg)(n:Int):List Ite:=itmV m l (ofL m l n)
def cmR(m:Mn)(l:List Sg)(n:Int):List Par×Int:=cmL m (perfL m) [⟨cmI m l n,[],[]⟩]
def rdOf(d mi:List Int)(p:Par):Rdg:=⟨d,mi,p.made,p.items.map (·.Dur)⟩
def cmE(m:Mn)(l:List Sg)(n:Int):Int:=(cmR m l n).2
def cmV(m:Mn)(l:List Sg)(n:Int):List Rdg:=if cmE m l n=0 then(cmR m l n).1.map (rdOf (ofL m l n) [])else[]
def cmN(m:Mn)(L:List Int)(l:List Par):Nat->List Par
 |0=>l
 |n+1=>alvV m (L.getD n 0) (cmN m L l n)
structure CmJ(m:Mn)(L:List Int)(l:List Par)(n:Nat):Prop where
 le:n<=L.length
 go:cmL m L l=cmL m (L.drop n) (cmN m L l n)
def CmJ.z(m:Mn)(L:List Int)(l:List Par):CmJ m L l 0:=⟨jU _,rfl⟩
section
variable{m:Mn}{L:List Int}{l:List Par}{n:Nat}{k:Int}
def zwL(hk:L[n]? =some k):alvV m k (cmN m L l n)=cmN m L l (n+1):=by
 show _=alvV m (L.getD n 0) _;rw[jB,hk];rfl
def CmJ.s(h:CmJ m L l n)(hk:L[n]? =some k)(h0:alvE m k (cmN m L l n)=0):CmJ m L l (n+1):=by
 have K:=j5.1 hk;refine⟨K.1,?_⟩;rw[h.go,jQ K.1,K.2];show(if alvE m k (cmN m L l n)=0 then _ else _)=_;rw[j7 h0,zwL hk]
def CmJ.bad(h:CmJ m L l n)(hk:L[n]? =some k)(h0:¬alvE m k (cmN m L l n)=0):alvE m k (cmN m L l n)=15/\cmL m L l=([],15):=by
 have K:=j5.1 hk;refine⟨(ztB _ _ _).resolve_left h0,?_⟩;rw[h.go,jQ K.1,K.2];show(if alvE m k (cmN m L l n)=0 then _ else _)=_;rw[j8 h0]
def CmJ.fin(h:CmJ m L l n)(hn:n=L.length):cmL m L l=(cmN m L l n,0):=by
 rw[h.go,hn,uD];rfl
def zqE{a:Nat}(hl:l.length<=4096)(h:∀p∈l,PB a 0 0 p):∀n,(cmN m L l n).length<=4096/\∀p∈cmN m L l n,PB a 0 (n*(2*a+2)) p
 |0=>⟨hl,by simpa[cmN]using h⟩
 |n+1=>by
  obtain⟨i1,i2⟩:=zqE hl h n;have:=zqD (m:=m) (k:=L.getD n 0) i1 i2;refine⟨this.1,λp K=>?_⟩;have:=this.2 p K
  rwa[Nat.add_mul,vX]
end
def aqN(m:Mn)(l:List Sg):Nat->List Rdg
 |0=>[]
 |n+1=>aqN m l n++cmV m l n
def aqX(m:Mn)(l:List Sg):Nat->Bool
 |0=>true
 |n+1=>aqX m l n&&decide (cmE m l n=0)&&decide ((aqN m l (n+1)).length<=4096)
def aqE(m:Mn)(l:List Sg):Int:=
 if cntE m l=0 then(if aqX m l (cntV m l).toNat=true then(if(aqN m l (cntV m l).toNat).length=0 then 14 else 0)else 15)else cntE m l
def aqV(m:Mn)(l:List Sg):List Rdg:=if aqE m l=0 then aqN m l (cntV m l).toNat else[]
section
variable{m:Mn}{l:List Sg}{n:Nat}
variable{N:Nat}
def zBd(h:aqX m l (n+1)=false):n+1<=N->aqX m l N=false:=by
 intro hN
 induction N with
 |zero=>omega
 |succ N ih=>
  rcases wH (n+1) (N+1)with h1|h1
  ·show(aqX m l N&&_&&_)=false;rw[ih aa];rfl
  ·have:N=n:=aa
   subst this;exact h
def zG4(h:¬cntE m l=0):aqE m l=cntE m l/\aqV m l=[]:=by
 have:aqE m l=cntE m l:=by unfold aqE;rw[j8 h]
 refine⟨this,?_⟩;unfold aqV;rw[this,j8 h]
def zBe(h:cntE m l=0)(hn:(n:Int)<cntV m l)(K:¬cmE m l n=0\/4096<(aqN m l (n+1)).length):aqE m l=15/\aqV m l=[]:=by
 have hx:aqX m l (n+1)=false:=by
  show(aqX m l n&&decide (cmE m l n=0)&&decide ((aqN m l (n+1)).length<=4096))=false;rcases K with K|K
  ·rw[wB K];simp
  ·rw[wB (show¬(aqN m l (n+1)).length<=4096 by omega)];simp
 have:=zBd (N:=(cntV m l).toNat) hx aa;have:aqE m l=15:=by unfold aqE;rw[j7 h,j8 (by rw[this];decide)]
 refine⟨this,?_⟩;unfold aqV;rw[this];rfl
def zG5(h:aqX m l n=true)(K:cmE m l n=0)(H:(aqN m l (n+1)).length<=4096):aqX m l (n+1)=true:=by
 show(aqX m l n&&decide (cmE m l n=0)&&decide ((aqN m l (n+1)).length<=4096))=true;rw[h,wD K,wD H];rfl
def zG6(h:cntE m l=0)(hn:n=(cntV m l).toNat)(hx:aqX m l n=true)(h0:(aqN m l n).length=0):aqE m l=14/\aqV m l=[]:=by
 subst hn;have:aqE m l=14:=by unfold aqE;rw[j7 h,j7 hx,j7 h0]
 refine⟨this,?_⟩;unfold aqV;rw[this];rfl
def zG7(h:cntE m l=0)(hn:n=(cntV m l).toNat)(hx:aqX m l n=true)(h0:¬(aqN m l n).length=0):aqE m l=0/\aqN m l n=aqV m l:=by
 subst hn;have:aqE m l=0:=by unfold aqE;rw[j7 h,j7 hx,j8 h0]
 refine⟨this,?_⟩;unfold aqV;rw[this];rfl
def zom:∀{n:Nat},aqX m l n=true->(aqN m l n).length<=4096
 |0,_=>by simp[aqN]
 |n+1,h=>by
  have h:(aqX m l n&&decide (cmE m l n=0)&&decide ((aqN m l (n+1)).length<=4096))=true:=h;simp only[jE,w8]at h;exact h.2
def ztC(m:Mn)(l:List Sg):(aqV m l).length<=4096:=by
 unfold aqV;split
 ·rename_i h;unfold aqE at h;split at h
  ·split at h
   ·rename_i hx;exact zom hx
   ·cases h
  ·exact absurd h ai
 ·simp
end
end
section
variable{c:Int}{j:Nat}{k:Int}{m:Mn}{n:Nat}{zs:List AV}
attribute [local irreducible] FnW FnOW FnP FnD
def bqX(m:Mn)(k:Int)(l:List Par):List (List AV):=(brF m k l).map λp=>[parA p]
def zon(m:Mn)(k:Int)(l:List Par):(bqX m k l).length=(brF m k l).length:=by unfold bqX;simp
def zk0{l:List Par}(h:(bqX m k l)[j]? =some zs):∃p,(brF m k l)[j]? =some p/\zs=[parA p]:=by
 rw[bqX,j9]at h;cases hk:(brF m k l)[j]? with
 |none=>simp[hk]at h
 |some p=>simp[hk]at h;exact⟨p,rfl,h.symm⟩
def zwM{l:List Par}{p:Par}(h:l[n]? =some p):brF m k (l.take (n+1))=brF m k (l.take n)++br1 m k p:=by
 rw[jK,h];unfold brF;simp[uG]
def ztD{l:List Par}(n:Nat):∃r,brF m k l=brF m k (l.take n)++r:=
 ⟨brF m k (l.drop n),by conv=>lhs;rw[←wV n l]
                        unfold brF;rw[uG]⟩
def zyz{l:List Par}{p:Par}(h:l[n]? =some p)(K:(alV m k p.items p.now)[j]? =some c):(bqX m k l)[(brF m k (l.take n)).length+j]? =some [parA (parM p c)]:=by
 obtain⟨r,hr⟩:=ztD (m:=m) (k:=k) (l:=l) (n+1);rw[zwM h]at hr;have H:=(j5.1 K).1
 have e:(brF m k l)[(brF m k (l.take n)).length+j]? =some (parM p c):=by
  rw[hr,u4,wC aa,Nat.add_sub_cancel_left,u5 (by unfold br1;rw[jD];exact H)];unfold br1;rw[j9,K];rfl
 unfold bqX;rw[j9,e];rfl
def zyA(m:Mn)(k:Int)(p:Par):(br1 m k p).length=(alV m k p.items p.now).length:=by unfold br1;simp
attribute [local irreducible] alV alE segE segV brF bqX cgS cgN br1
def zdz(p:Par)(c:Int)(hn:p.now.length<=4000000):Fn prog 335 [parA p,iv c] (parA (parM p c)):=by
 refine bB func335 ntmps335 (λg w d=>?_);refine gq ?_;refine y0 [(5,33)] (zW p.now aa) ?_;refine gq ?_;refine yH intE [_] ?_;refine bF ?_;refine ya ?_;refine bF ?_;apply bD;apply ye;refine yl (kY (k:=33) rfl) ?_;refine gq ?_;refine bJ (.one (.cellA rfl rfl rfl rfl zpZ (kZ ?_)));all_goals exact zR
def zft(m:Mn)(k:Int)(l:List Par)(a b c:Nat)(h0:-9223372036854775808<=k)(h1:k<=9223372036854775807)(ha:a<=1000000)(hl:l.length<=100000)(hB:∀p∈l,PB a b c p):FnO prog 274 [mnA m,iv k,zdV l] [] [] (.tup [.own 30,iv (cgN m k l)]) [(30,.row parE (cgS m k l) 417 3)]:=by
 have x0:[]=cgS m k (l.take 0):=by unfold cgS;simp
 have w2:cgN m k (l.take 0)=0:=by unfold cgN;simp
 refine bR [] func274 ntmps274 (λg w d vs=>?_);apply yc;refine zl ?_;iterate 2 refine ya ?_
 apply yp;refine ya ?_;apply yp;refine yk ?_;iterate 2 apply ye
 refine yl (yz parE 417 3 8 30 rfl rfl) ?_;apply yd;refine yo ?_;apply kX;refine y9 [1,3,8,14,15] (λn zz=>(9,iv (cgN m k (l.take n)))::(16,iv (n:Int))::zz) [1000001,3] (λn zz=>(30,.row parE (cgS m k (l.take n)) 417 3)::zz) l.length (λn hk=>?_);refine gd ?_ ?_<;>intro v9
 ·have H:=@getX _ l n aa;obtain⟨p,G,v8⟩:=H;have xT:=hB p (j6 G);have v5:(cgS m k (l.take n)).length<=100000:=by have:=zkY m k (l.take n);rw[jO]at this;omega
  refine gc (zaW m k p.items h0 h1 (by have:=xT.i;omega)) ?_;refine gd ?_ ?_<;>intro K
  ·have x2:=zG2 (m:=m) (k:=k) G K;obtain⟨q1,q2⟩:=x2;refine gq ?_;refine yH parE [p] ?_;refine gq ?_;refine yr (n+1) (hI:=kW)
  ·have x1:=zG3 (m:=m) (k:=k) G K;obtain⟨q1,q2⟩:=x1;refine gq ?_;refine yr (n+1) (hI:=kW)
 ·obtain rfl:n=l.length:=aa
  rw[jR];apply bH;apply yc;refine ya ?_;refine yo ?_;refine bC ?_;refine zm4.mk (ts:=[(6,.own 30),(7,iv (cgN m k l))]) (.inr rfl) (yh) (.many ac (.cons (.tmp rfl (kZ rfl)) (.cons (.tmp rfl (kZ rfl)) .nil)))
def zfu(m:Mn)(k:Int)(l:List Par):Fn prog 276 [mnA m,iv k,zdV l] (.fn 334 [.ept (λ_:Unit=>[.sl parE l]) () 0,.ept (λ_:Unit=>mnE m) () 0,.ept (λ_:Unit=>[iv k]) () 0]):=by
 refine bB func276 ntmps276 (λg w d=>?_);apply yc;refine zl ?_;iterate 2 refine zax ?_
 refine ya ?_;apply yp;refine yC ?_;refine bC ?_;refine yi ((bG (k:=3) rfl rfl).trans ((bG (k:=4) rfl rfl).trans (bG (k:=5) rfl rfl))) ?_;refine gq ?_;all_goals exact zR
def zd8(m:Mn)(k:Int)(l:List Par)(a b c:Nat)(h0:-9223372036854775808<=k)(h1:k<=9223372036854775807)(ha:a<=1000000)(hb:b<=3999999)(hl:l.length<=100000)(hB:∀p∈l,PB a b c p):It prog 334 [.ept (λ_:Unit=>[.sl parE l]) () 0,.ept (λ_:Unit=>mnE m) () 0,.ept (λ_:Unit=>[iv k]) () 0] (bqX m k l):=by
 have x2:(brF m k (l.take 0)).length=0:=by unfold brF;simp
 refine zc1 func334 ntmps334 (λg w d ds Y lY hY=>?_);apply yc;refine yo ?_;apply kX;refine y9 [0,1,2,3,11,12] (λn zz=>(13,iv (n:Int))::zz) [] (λn zz=>(1000000,.yld (brF m k (l.take n)).length true)::zz) l.length (λn hk=>?_);refine gd ?_ ?_<;>intro x1
 ·have K:=@getX _ l n aa;obtain⟨p,hp,x0⟩:=K;have H:=hB p (j6 hp);have w2:=zol m k p.items p.now;refine gq ?_;refine zf (zhS m k p.items p.now h0 h1 (by have:=H.i;omega) (by have:=H.n;omega)) ?_;iterate 5 refine ya ?_
  apply yp;refine yo ?_;apply kX;refine y9 [0,1,2,3,11,12,13,6,27,28] (λj zz=>(29,iv (j:Int))::zz) [6] (λj zz=>(1000000,.yld ((brF m k (l.take n)).length+j) true)::zz) ((alV m k p.items p.now).length) (λj hk=>?_);refine gd ?_ ?_<;>intro v9
  ·have K:=@getX _ (alV m k p.items p.now) j aa;obtain⟨x,hx,v8⟩:=K;have xT:=zyz (m:=m) (k:=k) hp hx;refine gq ?_;refine zf (zdz p x (by have:=H.n;omega)) ?_;refine bX hY rfl rfl rfl (bK _) rfl rfl xT rfl (λb=>?_);refine gd ?_ ?_<;>intro G
   ·subst G;refine bC ?_;refine⟨.inr rfl,_,false,rfl,λhb=>by simp at hb⟩
   subst G;refine gq ?_;refine yr (j+1)
  ·obtain rfl:j=(alV m k p.items p.now).length:=aa
   have v5:(brF m k (l.take (n+1))).length=(brF m k (l.take n)).length+(alV m k p.items p.now).length:=by rw[zwM hp,jJ,zyA]
   refine gq ?_;refine yr (n+1)
 ·obtain rfl:n=l.length:=aa
  apply bH;refine⟨.inl rfl,_,true,rfl,λ_=>by rw[zon,jR]⟩
end
section
variable{j:Nat}{α:Type}{l:List α}{x:α}
attribute [local irreducible] FnW FnOW FnP FnD
def znr(h:l[j]? =some x):l.take j++[x]=l.take (j+1):=by
 rw[jK,h];rfl
attribute [local irreducible] alV alE segE segV brF bqX cgS cgN br1
def z6(m:Mn)(k:Int)(z:List Par)(a b c:Nat)(h0:-9223372036854775808<=k)(h1:k<=9223372036854775807)(ha:a<=1000000)(G:b<=3999999)(hl:z.length<=100000)(hB:∀p∈z,PB a b c p):FnO prog 333 [.nils,.fn 334 [.ept (λ_:Unit=>[.sl parE z]) () 0,.ept (λ_:Unit=>mnE m) () 0,.ept (λ_:Unit=>[iv k]) () 0]] [] [] (.own 39) [(39,.row parE (brF m k z) 417 3)]:=by
 have xT:=zkZ m k z;refine bR [] func333 ntmps333 (λg w d vh=>?_);apply yc;refine zax ?_;refine yk ?_;iterate 2 apply ye
 refine yl (zK parE 417 3 2 39 418 rfl rfl) ?_;apply yd;refine yk ?_;apply kX;have x2:[]=(brF m k z).take 0:=ah
 have x1:(brF m k z).take (bqX m k z).length=brF m k z:=by rw[zon,jR]
 refine bV (sl:=[2]) (λj=>([.ptr 2 0 0 0],[(1000001,.hold vh []),(2,.box [.own 39] 418),(39,.row parE ((brF m k z).take j) 417 3)])) (λj=>True) 900001 900002 rfl rfl ac (λj zs K=>by obtain⟨i,_,rfl⟩:=zk0 K;rfl) (zd8 m k z a b c h0 h1 ha G hl hB) trivial rfl rfl ac (jU _) ah (λj zs K=>by obtain⟨i,_,rfl⟩:=zk0 K;rfl) (λ_=>rfl) rfl rfl (λl o us=>yh) (trivial) (λj zs K hJ l ready busy rb vs g w G x0=>?_) (λhJ=>?_)
 ·have H:=zk0 K;obtain⟨p,hi,rfl⟩:=H;have w2:=znr hi;have v9:((brF m k z).take j).length<=1000000:=by rw[jO];omega
  apply yd;refine yP ?_;refine bF ?_;apply bD;refine⟨rfl,rfl,?_⟩;refine gq ?_;refine yH parE [p] ?_;iterate 2 refine bF ?_
  apply bD;refine⟨[.ptr 2 0 0 0],[(1000001,.hold vh []),(2,.box [.own 39] 418),(39,.row parE ((brF m k z).take (j+1)) 417 3)],yh,rfl,trivial⟩
 apply yc;refine yC ?_;refine bC ?_;refine zm4.mk (ts:=[(4,.own 39)]) (.inr rfl) (yh) (.one (.tmp rfl (kZ rfl)))
def zbv(m:Mn)(k:Int)(z:List Par)(a b c:Nat)(h0:-9223372036854775808<=k)(h1:k<=9223372036854775807)(K:a<=1000000)(H:b<=3999999)(hl:z.length<=100000)(G:∀p∈z,PB a b c p):FnO prog 275 [.fn 334 [.ept (λ_:Unit=>[.sl parE z]) () 0,.ept (λ_:Unit=>mnE m) () 0,.ept (λ_:Unit=>[iv k]) () 0]] [] [] (.own 39) [(39,.row parE (brF m k z) 417 3)]:=by
 refine bR [] func275 ntmps275 (λg w d vs=>?_);refine gq ?_;refine y0 [(39,39)] (z6 m k z a b c h0 h1 K H hl G) ?_;refine yk ?_;refine bC ?_;refine zm4.mk (ts:=[(2,.own 39)]) (.inr rfl) (yh) (.one (.tmp rfl (kZ rfl)))
end
end Go.Rse
