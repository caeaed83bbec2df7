/-
  Walks.
-/
import Derived.Test.YtpapdhoblekoeaaGreatDoorZJCho6
set_option linter.all false
set_option maxHeartbeats 8000000
namespace Go.Rse
open Go Go.Proofs Go.Proofs.Tryz
attribute [local irreducible] Pur yy Ex X Fn Imp LeB FnO It yA
section
variable{P:Program}{T:TypeId}{m:Int}{α:Type}
def snF:Sn->List AV:=λs=>[.bool s.R,iv s.P.Step,iv s.P.Oct,iv s.P.Alt,.sl mdE s.V,.bool s.T,iv s.Ab,iv s.S,iv s.Ps]
def snsF:List Sn->List AV:=λl=>[.sl snF l]
def svF:Sv->List AV:=λv=>[.str v.N,.sl bkE v.K,.sl snsF v.B]
structure PwK(V:List Nu)(S:List (Nat×Int×Bool))(ns:List Sn):Prop where
 l:ns.length=S.length
 k:∀(j:Nat)(s:Sn),ns[j]? =some s->∃x,S[j]? =some x/\SnK V x s
abbrev brK(V:List Nu)(L:Int)(k:Nat):List (Nat×Int×Bool):=brT (usV V) (brA (usV V) L k) (brA (usV V) L (k+1))
structure BaK(V:List Nu)(L:Int)(n:Nat)(B:List (List Sn)):Prop where
 l:B.length=n
 k:∀(k:Nat)(ns:List Sn),B[k]? =some ns->PwK V (brK V L k) ns
structure ScK(W:List (List Nu))(Ns:List ByteArray)(Kb:List (List Bk))(L:Int)(n:Nat)(S:List Sv):Prop where
 l:S.length=n
 k:∀(i:Nat)(V:List Nu)(v:Sv),W[i]? =some V->S[i]? =some v->BaK V L (brM (usV V) L) v.B/\Ns[i]? =some v.N/\Kb[i]? =some v.K
def zr0{l:List α}{x y:α}{i n:Nat}(hl:l.length=n)(h:(l++[x])[i]? =some y):l[i]? =some y\/(i=n/\y=x):=by
 grind
def PwK.s{V:List Nu}{S:List (Nat×Int×Bool)}{j:Nat}{ns:List Sn}{x:Nat×Int×Bool}{s:Sn}(h:PwK V (S.take j) ns)(hx:S[j]? =some x)(hs:SnK V x s):PwK V (S.take (j+1)) (ns++[s]):=by
 grind[PwK]
def BaK.s{V:List Nu}{L:Int}{n:Nat}{B:List (List Sn)}{ns:List Sn}(h:BaK V L n B)(hs:PwK V (brK V L n) ns):BaK V L (n+1) (B++[ns]):=
 ⟨by rw[jJ,h.l];rfl,λk t ht=>by
  rcases zr0 h.l ht with ht|⟨e1,e2⟩;all_goals grind[k]⟩
def ScK.s{W:List (List Nu)}{Ns:List ByteArray}{Kb:List (List Bk)}{L:Int}{n:Nat}{S:List Sv}{V:List Nu}{v:Sv}(h:ScK W Ns Kb L n S)(H:W[n]? =some V)(G:BaK V L (brM (usV V) L) v.B)(hN:Ns[n]? =some v.N)(E:Kb[n]? =some v.K):ScK W Ns Kb L (n+1) (S++[v]):=
 ⟨by rw[jJ,h.l];rfl,λi V' t Q ht=>by
  rcases zr0 h.l ht with ht|⟨e1,e2⟩
  ·exact h.k i V' t Q ht
  simp_all⟩
def zCx{V:List Nu}(h:VoK V)(he:∀u∈usV V,u%2=0)(h1:1<=m)(h8:m<=8){k j:Nat}{x:Nat×Int×Bool}(hk:k<brM (usV V) (16*m))(hx:(brK V (16*m) k)[j]? =some x):
 (∃y,V[x.1]? =some y)/\okQ 8 x.2.1=true/\(x.2.2=true↔k+1<brM (usV V) (16*m)/\nx (usV V) (brA (usV V) (16*m) (k+1))=x.1):=by
 change(brT (usV V) (brA (usV V) (16*m) k) (brA (usV V) (16*m) (k+1)))[j]? =some x at hx;obtain⟨N,E,K,Q⟩:=zi1 h.pos (show 0<16*m by omega) hk;have xT:=zwD (usV V) (16*m) k;have x2:brA (usV V) (16*m) (k+1)=min (((k+1:Nat):Int)*(16*m)) (usV V).sum:=rfl;have hM:=zpc h.pos (show 0<16*m by omega) (i:=k+1);generalize brA (usV V) (16*m) k=A at*
 generalize brA (usV V) (16*m) (k+1)=B at*
 unfold brT at hx;have hj:j<ns (usV V) B-nx (usV V) A:=by grind
 rw[j9,List.getElem?_range' hj]at hx;simp only[wS,xE,vX]at hx;subst hx;have H:=zBa h.pos N K Q (n:=nx (usV V) A+j) aa aa;have hd:=H.d;have x1:(usV V).sum%2=0:=by rw[←zaA];exact zkd he _
 have x0:((k:Int)*(16*m))%2=0:=by grind
 have w2:=zkd he (nx (usV V) A+j);have v9:=zkd he (nx (usV V) A+j+1);have hl:=H.l;have v8:=(zpb h.pos (p:=B) aa Q).2.2.1 (nx (usV V) A+j) aa;have G:=zca h.pos (k:=nx (usV V) A+j+1) (n:=(usV V).length) aa;rw[zaA]at G;refine⟨⟨_,lgg (show nx (usV V) A+j<V.length by simp_all)⟩,zwB (by dsimp only[pcT,pcg];omega) (by dsimp only[pcT,pcg];omega) (by dsimp only[pcT,pcg];omega),?_⟩;dsimp only[pcT,pcg];rw[w8,hM];constructor
 ·intro hc;exact⟨aa,(H.on hc).2⟩
 ·rintro⟨c1,c2⟩
  have:=(zgo h.pos (p:=B) aa aa).2.2;simp_all
def zxm{V:List Nu}(h:VoK V)(h1:1<=m){k:Nat}(hk:k<brM (usV V) (16*m)):((baB V (16*m) k).P)[(0:Int).toNat]? =some (pcO V (pcT (usV V) (brA (usV V) (16*m) k) (brA (usV V) (16*m) (k+1)) (nx (usV V) (brA (usV V) (16*m) k)))):=by
 obtain⟨Q,H,N,K⟩:=zi1 h.pos (show 0<16*m by omega) hk;have hn:=zrW h.pos Q N K
 grind[brT,baB]
def zi2(h:(P.info? T).bind (·.zero)=some (.int .i64 0)):∃z i,P.info? T=some i/\i.zero=some z/\∀I,RV I noNames (iv 0) z:=by
 obtain⟨i,h1,Q⟩:=x5.1 h;exact⟨_,i,h1,Q,λI=>.int _ _⟩
def zr1{V:List Nu}(h:VoK V)(L:Int)(k:Nat):(brK V L k).length<=60:=by
 have hl:=h.l
 have:∀p:Int,∀us:List Int,ns us p<=us.length:=λp us=>by
  induction us generalizing p with
  |nil=>exact jG _
  |cons u r ih=>
   unfold ns;split
   ·exact Nat.succ_le_succ (ih _)
   ·exact jU _
 have h1:=this (brA (usV V) L (k+1)) (usV V);rw[jD]at h1;show((List.range' _ _).map _).length<=60
 grind
def zr2{α:Type}{x:List α}:∀{L:List (List α)},x∈L->x.length<=L.flatten.length
 |[],h=>by cases h
 |y::L,h=>by
  rw[kB,jJ];rcases jW.1 h with rfl|h
  ·omega
  ·have:=zr2 h;omega
def zxn{V:List Nu}{L:Int}{k n:Nat}(h:k<n):(baL V L n)[k]? =some (baB V L k):=by unfold baL;simp[h]
attribute [local irreducible] LeV yu FnE ckT addE addV tq cmpV vu lgV liL okQ vuM pf brA brT baL nx ns reV evL
def zaR(l:List Bk)(hl:l.length<=1000000):Fn prog 51 [.sl bkE l] (.sl bkE l):=by
 refine bB func51 ntmps51 (λg w d=>?_);apply yc;refine yk ?_;apply ye;apply yc;refine ya ?_;refine Ex.eqNil rfl sl70 rfl (λb K=>?_);refine gd ?_ ?_<;>intro Q
 ·have N:=K Q;subst N;subst Q;apply yc;refine yk ?_;refine bC ?_;refine yi (yh (ts:=[(2,.sl bkE [])]) (hs:=[])) ?_;refine gq ?_;all_goals rfl
 refine gq ?_;refine yH bkE [] ?_;refine ya ?_;refine bF ?_;refine yk ?_;refine bC ?_;refine yi (kY (k:=5) rfl) ?_;refine gq ?_;all_goals rfl
set_option maxRecDepth 9999 in
def znQ(W:List (List Nu))(h:VsK W)(he:∀V∈W,∀u∈usV V,u%2=0)(m:Int)(h1:1<=m)(h8:m<=8)(hb:∀V∈W,brM (usV V) (16*m)<=2000)(Ns:List ByteArray)(Kb:List (List Bk))(h4:Ns.length=W.length)(hKl:Kb.length=W.length)(hn:Fn prog 46 [.sl strE Ns] (iv 0))(hf:Kb.flatten.length<=1000000)(v0:∀b∈Kb.flatten,BkK b)(hp:FnE prog 49 [vosA (voL W)] [] [] (ι:=List ((Int×Int)×Int)) (λ_=>.mp 50) (λl=>[(50,.mpb prE (λi:Int=>iv i) l)])):FnE prog 22 [.sl strE Ns,vosA (voL W),.sl bksE Kb,.agg [iv m,iv 1]] [] [] (ι:={S:List Sv//ScK W Ns Kb (16*m) W.length S}) (λS=>.tup [.agg [iv m,iv 1,.sl svF S.1],iv 0]) (λS=>[]):=by
 have k9:ckT ⟨m,1⟩=0:=by rw[←zkq];exact ziY ⟨aa,aa⟩
 have hwl:=h.l;have hvl:(voL W).length=W.length:=jD ..;refine bU [] func22 ntmps22 (λg w d vs=>?_);apply yc;refine zl ?_;refine yP ?_;refine yk ?_;apply ye;apply yc;iterate 5 refine ya ?_
 refine bI 5 ?_;refine yw ?_;iterate 5 refine bE ?_
 refine gf ?_ ?_<;>intro k8
 ·(simp at k8;omega)
 refine gc (zbF W h) ?_;refine gd ?_ ?_<;>intro k7
 ·exact absurd rfl k7
 refine gc hn ?_;refine gd ?_ ?_<;>intro k6
 ·exact absurd rfl k6
 refine gc (zfT Kb aa hf v0) ?_;refine gd ?_ ?_<;>intro k5
 ·exact absurd rfl k5
 refine gc (zaz ⟨m,1⟩) ?_;refine gd ?_ ?_<;>intro k4
 ·exact absurd k9 k4
 refine gd ?_ ?_<;>intro hc6
 ·omega
 apply yf;apply yc;refine ya ?_;refine zaB [(50,50)] hp (λlm=>?_);refine ya ?_;apply yp;iterate 2 refine ya ?_
 refine yP ?_;refine bF ?_;apply bD;apply ye;apply yc;refine yo ?_;apply kX;refine yl (zbV svF 73 3 16 41 2 38 _ [iv m,iv 1,.own 41] rfl rfl rfl rfl) ?_;refine zag (ι:=Nat×List Sv) [0,2,7,8,15,16,78,79] (λ(q0:Nat×List Sv)zz=>(80,iv (q0.1:Int))::zz) [7,1000001,8,50,16] (λ(q0:Nat×List Sv)zz=>(41,.row svF (q0.2) 73 3)::zz) (λ(q0:Nat×List Sv)=>q0.1<=W.length/\ScK W Ns Kb (16*m) q0.1 q0.2) (λ(q0:Nat×List Sv)=>W.length-q0.1) (0,[]) (λq0 hk=>?_) (hJ:=by exact⟨jU _,rfl,λi V v _ hv=>by simp at hv⟩);obtain⟨i,Ls⟩:=q0;dsimp only at*
 obtain⟨hi,hk⟩:=hk;refine gd ?_ ?_<;>intro hc7
 ·obtain⟨V,hV⟩:∃V,W[i]? =some V:=⟨_,lgg aa⟩;have Q:=j6 hV;have k3:=zbj hV;have he2:(voL W)[(i:Int).toNat]? =some (evL V):=ao k3
  have xT:=@getX _ Ns i aa;obtain⟨nm,k2,hW⟩:=xT;have xT:=@getX _ Kb i aa;obtain⟨kb,G,hQ⟩:=xT;have j4:kb.length<=1000000:=jV (zr2 (j6 G)) hf;have j3:i+1<=W.length:=aa
  have j2:=znp V (16*m) (brM (usV V) (16*m));have hel:=zj V;have hbV:=hb V Q;have hLs:=hk.l;refine gc (znq V (h.k V Q) (he V Q) m h1 h8 (hb V Q)) ?_;refine gd ?_ ?_<;>intro j1
  ·exact absurd rfl j1
  refine gq ?_;refine y4 [21,95,96,97,98,99,100,101,102,103,104] [0,0,3,7,0,0,48,112,240,511,0,2047] mo ?_;iterate 8 refine yb ?_
  refine yI (zaR kb j4) ?_;refine yb ?_;refine ChM.step rfl rfl rfl (zd (k:=21) zc73) rfl ?_;refine yD ?_;refine bF ?_;apply yp;refine yk ?_;apply ye;apply yc;refine yo ?_;apply kX;refine yl (zbV snsF 74 1 21 42 2 73 _ [.str nm,.sl bkE kb,.own 42] rfl rfl rfl rfl) ?_;refine zag (ι:=Nat×List (List Sn)×Int) [0,2,7,8,15,16,78,79,80,17,18,19,21,105,106] (λ(q1:Nat×List (List Sn)×Int)zz=>(22,iv q1.2.2)::(107,iv (q1.1:Int))::zz) [7,1000001,8,50,16,41,21] (λ(q1:Nat×List (List Sn)×Int)zz=>(42,.row snsF (q1.2.1) 74 1)::zz) (λ(q1:Nat×List (List Sn)×Int)=>q1.1<=(brM (usV V) (16*m))/\BaK V (16*m) q1.1 q1.2.1) (λ(q1:Nat×List (List Sn)×Int)=>(brM (usV V) (16*m))-q1.1) (0,[],-1) (λq1 hk=>?_) (hJ:=by exact⟨jU _,rfl,λi V hv=>by simp at hv⟩);obtain⟨k,Bs,z⟩:=q1;dsimp only at*
  obtain⟨hk1,x2⟩:=hk;refine gd ?_ ?_<;>intro hc9
  ·have x1:k<(brM (usV V) (16*m)):=aa
   have x0:=zxn (V:=V) (L:=16*m) x1;have hG:(baL V (16*m) (brM (usV V) (16*m)))[(k:Int).toNat]? =some (baB V (16*m) k):=ao x0
   have w2:k+1<(brM (usV V) (16*m))->(baL V (16*m) (brM (usV V) (16*m)))[((k:Int)+1).toNat]? =some (baB V (16*m) (k+1)):=λhc=>by rw[show((k:Int)+1).toNat=k+1 by omega];exact zxn hc
   have v9:k+1<=(brM (usV V) (16*m)):=aa
   have hPl:(baB V (16*m) k).P.length=(brK V (16*m) k).length:=jD ..;have hP2:k+1<(brM (usV V) (16*m))->0<(baB V (16*m) (k+1)).P.length:=λhc=>(j5.1 (zxm (h.k V Q) h1 hc)).1
   have hBl:=x2.l;have hbk:=zr1 (h.k V Q) (16*m) k;apply yf;apply ye;apply kX;apply yc;(iterate 3 refine ya ?_);refine yP ?_;refine ya ?_;refine bF ?_;apply yp;refine yk ?_;(iterate 2 apply ye);refine yl (yz snF 77 9 25 43 rfl rfl) ?_;apply yd;refine ya ?_;refine yo ?_;apply kX;refine zag (ι:=Nat×List Sn×Int) [0,2,7,8,15,16,78,79,80,17,18,19,21,105,106,107,23,24,25,113,114] (λ(q2:Nat×List Sn×Int)zz=>(22,iv q2.2.2)::(115,iv (q2.1:Int))::zz) [7,1000001,8,50,16,41,21,42,24] (λ(q2:Nat×List Sn×Int)zz=>(43,.row snF (q2.2.1) 77 9)::zz) (λ(q2:Nat×List Sn×Int)=>q2.1<=(brK V (16*m) k).length/\PwK V ((brK V (16*m) k).take q2.1) q2.2.1) (λ(q2:Nat×List Sn×Int)=>(brK V (16*m) k).length-q2.1) (0,[],z) (λq2 hk=>?_) (hJ:=by exact⟨jU _,ah,λr s hs=>by simp at hs⟩);obtain⟨r,Nn,z2⟩:=q2;dsimp only at*
   obtain⟨hj1,K⟩:=hk;refine gd ?_ ?_<;>intro hF
   ·obtain⟨x,hx⟩:∃x,(brK V (16*m) k)[r]? =some x:=⟨_,lgg aa⟩;have hp1:(baB V (16*m) k).P[(r:Int).toNat]? =some (pcO V x):=by rw[jN];show((brK V (16*m) k).map (pcO V))[r]? =_;rw[j9,hx];rfl
    have j0:=zCx (h.k V Q) (he V Q) h1 h8 x1 hx;obtain⟨⟨y,hy⟩,v8,hZ⟩:=j0;have hyl:=(j5.1 hy).1;have hY:=zdJ hy;have hC:(evL V)[(x.1:Int).toNat]? =some (evA V x.1 y):=ao hY
    have E:r+1<=(brK V (16*m) k).length:=aa
    have v5:(decide ((k:Int)+1<((baL V (16*m) (brM (usV V) (16*m))).length:Int))&&decide ((nx (usV V) (brA (usV V) (16*m) (k+1)):Int)=(x.1:Int)))=x.2.2:=by
     rw[Bool.eq_iff_iff,hZ,jE,w8,w8,j2];omega
    have v4:=K.l;have h9:Nn.length<=100:=by rw[v4,jO];omega
    apply yf;apply ye;apply kX;apply yc;(iterate 2 refine ya ?_);refine yP ?_;refine bF ?_;apply bD;apply ye;refine yl (st':=⟨[(0,.sl strE Ns),(2,.sl bksE Kb),(7,.ptr 7 0 0 0),(8,.ptr 8 0 0 0),(15,.mp 50),(16,.ptr 16 0 0 0),(78,vosA (voL W)),(79,iv ((voL W).length:Int)),(80,iv (i:Int)),(17,iv (i:Int)),(18,evsA (evL V)),(19,.sl baE (baL V (16*m) (brM (usV V) (16*m)))),(21,.ptr 21 0 0 0),(22,iv z2),(105,.sl baE (baL V (16*m) (brM (usV V) (16*m)))),(106,iv ((baL V (16*m) (brM (usV V) (16*m))).length:Int)),(107,iv (k:Int)),(23,iv (k:Int)),(24,.ptr 24 0 0 0),(25,.own 43),(113,.sl pcE (baB V (16*m) k).P),(114,iv ((baB V (16*m) k).P.length:Int)),(115,iv (r:Int)),(27,.ptr 27 0 0 0)],[(7,.box [iv m,iv 1] 35),(1000001,.hold vs []),(8,.box [iv 0,iv 0,.nils] 38),(50,.mpb prE (λi:Int=>iv i) lm),(16,.box [iv m,iv 1,.own 41] 38),(41,.row svF (Ls) 73 3),(21,.box [.str nm,.sl bkE kb,.own 42] 73),(42,.row snsF (Bs) 74 1),(24,.box (baE (baB V (16*m) k)) 158),(43,.row snF (Nn) 77 9),(27,.box [iv (x.1:Int),iv (tq x.2.1).N,iv (tq x.2.1).D,.sl mdE (liL 8 x.2.1),.bool (x.2.2&&!reV V x.1)] 160)]⟩) yh ?_;apply yd;(iterate 5 refine ya ?_);refine yP ?_;refine bF ?_;apply yp;(iterate 11 refine ya ?_);refine yP ?_;refine bF ?_;apply bD;refine zbm ⟨[(0,.sl strE Ns),(2,.sl bksE Kb),(7,.ptr 7 0 0 0),(8,.ptr 8 0 0 0),(15,.mp 50),(16,.ptr 16 0 0 0),(78,vosA (voL W)),(79,iv ((voL W).length:Int)),(80,iv (i:Int)),(17,iv (i:Int)),(18,evsA (evL V)),(19,.sl baE (baL V (16*m) (brM (usV V) (16*m)))),(21,.ptr 21 0 0 0),(22,iv z2),(105,.sl baE (baL V (16*m) (brM (usV V) (16*m)))),(106,iv ((baL V (16*m) (brM (usV V) (16*m))).length:Int)),(107,iv (k:Int)),(23,iv (k:Int)),(24,.ptr 24 0 0 0),(25,.own 43),(113,.sl pcE (baB V (16*m) k).P),(114,iv ((baB V (16*m) k).P.length:Int)),(115,iv (r:Int)),(27,.ptr 27 0 0 0),(29,.ptr 29 0 0 0)],[(7,.box [iv m,iv 1] 35),(1000001,.hold vs []),(8,.box [iv 0,iv 0,.nils] 38),(50,.mpb prE (λi:Int=>iv i) lm),(16,.box [iv m,iv 1,.own 41] 38),(41,.row svF (Ls) 73 3),(21,.box [.str nm,.sl bkE kb,.own 42] 73),(42,.row snsF (Bs) 74 1),(24,.box (baE (baB V (16*m) k)) 158),(43,.row snF (Nn) 77 9),(27,.box [iv (x.1:Int),iv (tq x.2.1).N,iv (tq x.2.1).D,.sl mdE (liL 8 x.2.1),.bool (x.2.2&&!reV V x.1)] 160),(29,.box [.bool y.R,iv y.P.Step,iv y.P.Oct,iv y.P.Alt,.sl mdE (liL 8 x.2.1),.bool (decide ((k:Int)+1<((baL V (16*m) (brM (usV V) (16*m))).length:Int))&&decide ((nx (usV V) (brA (usV V) (16*m) (k+1)):Int)=(x.1:Int))),iv 0,iv y.S,iv y.Ps] 77)]⟩ (λv3=>?_) ?_
    ·refine y4 [135,136,137,138,139,140,141,142,143,144,145,146,147,148,149,150,151,152] [0,1,0,4,15,31,63,63,191,511,1023,2047,4095,8191,16383,63,32831,131071,262143,524287,1048575] mo ?_;(iterate 6 refine yb ?_);(iterate 3 refine bL ?_);refine bL ?_ (x:=.ept baE (baB V (16*m) (k+1)) 0) (hs:=by intro hX;exact zbS rfl rfl zyp zxY (λ_=>rfl) aa (w2 aa));(iterate 2 refine bL ?_);refine bL ?_ (x:=.ept pcE (pcO V (pcT (usV V) (brA (usV V) (16*m) (k+1)) (brA (usV V) (16*m) (k+1+1)) (nx (usV V) (brA (usV V) (16*m) (k+1))))) 0) (hs:=by intro hX;exact zbS rfl rfl zts ztm (λ_=>rfl) aa (zxm (h.k V Q) h1 aa));(iterate 5 refine bL ?_);refine yD ?_;(iterate 2 refine ya ?_);refine bF ?_;apply bD;exact yl kW v3
    refine gd ?_ ?_<;>intro h5
    ·refine zY [⟨0,159,.mp 50,[]⟩,⟨1,160,iv (i:Int),[]⟩,⟨2,161,.ptr 27 0 0 0,[]⟩,⟨3,162,iv (x.1:Int),[2]⟩,⟨4,163,.agg [iv (i:Int),iv (x.1:Int)],[2,3,1]⟩,⟨5,164,iv ((kget ((i:Int),(x.1:Int)) lm).getD 0),[2,3,1,4,0]⟩,⟨6,165,.ptr 27 0 0 0,[]⟩,⟨7,166,iv (x.1:Int),[6]⟩,⟨8,167,.ptr 29 0 0 6,[5,4,3,2,1,0]⟩] [(9,[4,3,2,1,0,5,8]),(10,[8,6,5,4,3,2,1,0,9,7])] (let T:=[(0,.sl strE Ns),(2,.sl bksE Kb),(7,.ptr 7 0 0 0),(8,.ptr 8 0 0 0),(15,.mp 50),(16,.ptr 16 0 0 0),(78,vosA (voL W)),(79,iv ((voL W).length:Int)),(80,iv (i:Int)),(17,iv (i:Int)),(18,evsA (evL V)),(19,.sl baE (baL V (16*m) (brM (usV V) (16*m)))),(21,.ptr 21 0 0 0),(105,.sl baE (baL V (16*m) (brM (usV V) (16*m)))),(106,iv ((baL V (16*m) (brM (usV V) (16*m))).length:Int)),(107,iv (k:Int)),(23,iv (k:Int)),(24,.ptr 24 0 0 0),(25,.own 43),(113,.sl pcE (baB V (16*m) k).P),(114,iv ((baB V (16*m) k).P.length:Int)),(115,iv (r:Int)),(27,.ptr 27 0 0 0),(29,.ptr 29 0 0 0)];let H:=[(7,.box [iv m,iv 1] 35),(1000001,.hold vs []),(8,.box [iv 0,iv 0,.nils] 38),(50,.mpb prE (λi:Int=>iv i) lm),(16,.box [iv m,iv 1,.own 41] 38),(41,.row svF (Ls) 73 3),(21,.box [.str nm,.sl bkE kb,.own 42] 73),(42,.row snsF (Bs) 74 1),(24,.box (baE (baB V (16*m) k)) 158),(43,.row snF (Nn) 77 9),(27,.box [iv (x.1:Int),iv (tq x.2.1).N,iv (tq x.2.1).D,.sl mdE (liL 8 x.2.1),.bool (x.2.2&&!reV V x.1)] 160)];λj=>match j with|0=>⟨(22,iv z2)::T,(29,.box [.bool y.R,iv y.P.Step,iv y.P.Oct,iv y.P.Alt,.sl mdE (liL 8 x.2.1),.bool (decide ((k:Int)+1<((baL V (16*m) (brM (usV V) (16*m))).length:Int))&&decide ((nx (usV V) (brA (usV V) (16*m) (k+1)):Int)=(x.1:Int))),iv 0,iv y.S,iv y.Ps] 77)::H⟩|1=>⟨(22,iv z2)::T,(29,.box [.bool y.R,iv y.P.Step,iv y.P.Oct,iv y.P.Alt,.sl mdE (liL 8 x.2.1),.bool (decide ((k:Int)+1<((baL V (16*m) (brM (usV V) (16*m))).length:Int))&&decide ((nx (usV V) (brA (usV V) (16*m) (k+1)):Int)=(x.1:Int))),iv ((kget ((i:Int),(x.1:Int)) lm).getD 0),iv y.S,iv y.Ps] 77)::H⟩|_=>⟨(22,iv x.1)::T,(29,.box [.bool y.R,iv y.P.Step,iv y.P.Oct,iv y.P.Alt,.sl mdE (liL 8 x.2.1),.bool (decide ((k:Int)+1<((baL V (16*m) (brM (usV V) (16*m))).length:Int))&&decide ((nx (usV V) (brA (usV V) (16*m) (k+1)):Int)=(x.1:Int))),iv ((kget ((i:Int),(x.1:Int)) lm).getD 0),iv y.S,iv y.Ps] 77)::H⟩) mo (zP (yh)) (λj hj=>?_) ⟨λβ=>Co2 rfl (zX rfl rfl rfl rfl ty3 (ltB rfl)),λβ=>Co2 rfl (yW (bA yU) rfl rfl),trivial⟩ ?_
     ·rcases j with _|_|_|j
      ·(iterate 2 refine⟨.inr ⟨_,rfl,rfl,rfl,rfl,bA yU⟩,?_⟩);refine⟨.inr ⟨_,rfl,rfl,rfl,rfl,bA (zbK rfl rfl)⟩,?_⟩;(iterate 2 refine⟨.inr ⟨_,rfl,rfl,rfl,rfl,bA yU⟩,?_⟩);refine⟨.inr ⟨_,rfl,rfl,rfl,rfl,bA (zeP (q:=((i:Int),(x.1:Int))) (ok:=false) (0:Int) zqO rfl rfl rfl rfl Tryz.underlying150 (λ_ _=>rfl) (zi2 ze3))⟩,?_⟩;exact yE
      ·exact yE
      ·exact yE
      ·exact absurd (show j+3<=2 from hj) aa
     refine gq ?_;refine yH snF [(⟨y.R,y.P,liL 8 x.2.1,(decide ((k:Int)+1<((baL V (16*m) (brM (usV V) (16*m))).length:Int))&&decide ((nx (usV V) (brA (usV V) (16*m) (k+1)):Int)=(x.1:Int))),((kget ((i:Int),(x.1:Int)) lm).getD 0),y.S,y.Ps⟩:Sn)] ?_;refine gq ?_;refine yr ((r+1,Nn++[(⟨y.R,y.P,liL 8 x.2.1,(decide ((k:Int)+1<((baL V (16*m) (brM (usV V) (16*m))).length:Int))&&decide ((nx (usV V) (brA (usV V) (16*m) (k+1)):Int)=(x.1:Int))),((kget ((i:Int),(x.1:Int)) lm).getD 0),y.S,y.Ps⟩:Sn)],(x.1:Int))) (hJ:=by exact⟨E,K.s hx ⟨⟨y,hy,rfl,rfl,rfl,rfl⟩,rfl,v5,v8⟩⟩) (hm:=by(show(brK V (16*m) k).length-(r+1)<(brK V (16*m) k).length-r;omega)) (hI:=kW)
    ·refine gq ?_;refine yH snF [(⟨y.R,y.P,liL 8 x.2.1,(decide ((k:Int)+1<((baL V (16*m) (brM (usV V) (16*m))).length:Int))&&decide ((nx (usV V) (brA (usV V) (16*m) (k+1)):Int)=(x.1:Int))),0,y.S,y.Ps⟩:Sn)] ?_;refine gq ?_;refine yr ((r+1,Nn++[(⟨y.R,y.P,liL 8 x.2.1,(decide ((k:Int)+1<((baL V (16*m) (brM (usV V) (16*m))).length:Int))&&decide ((nx (usV V) (brA (usV V) (16*m) (k+1)):Int)=(x.1:Int))),0,y.S,y.Ps⟩:Sn)],z2)) (hJ:=by exact⟨E,K.s hx ⟨⟨y,hy,rfl,rfl,rfl,rfl⟩,rfl,v5,v8⟩⟩) (hm:=by(show(brK V (16*m) k).length-(r+1)<(brK V (16*m) k).length-r;omega)) (hI:=kW)
   ·obtain rfl:r=(brK V (16*m) k).length:=aa
    rw[jR]at K;have v2:=K;apply bH;refine yl (st':=⟨[(0,.sl strE Ns),(2,.sl bksE Kb),(7,.ptr 7 0 0 0),(8,.ptr 8 0 0 0),(15,.mp 50),(16,.ptr 16 0 0 0),(78,vosA (voL W)),(79,iv ((voL W).length:Int)),(80,iv (i:Int)),(17,iv (i:Int)),(18,evsA (evL V)),(19,.sl baE (baL V (16*m) (brM (usV V) (16*m)))),(21,.ptr 21 0 0 0),(22,iv z2),(105,.sl baE (baL V (16*m) (brM (usV V) (16*m)))),(106,iv ((baL V (16*m) (brM (usV V) (16*m))).length:Int)),(107,iv (k:Int)),(25,.sl snF Nn)],[(7,.box [iv m,iv 1] 35),(1000001,.hold vs []),(8,.box [iv 0,iv 0,.nils] 38),(50,.mpb prE (λi:Int=>iv i) lm),(16,.box [iv m,iv 1,.own 41] 38),(41,.row svF (Ls) 73 3),(21,.box [.str nm,.sl bkE kb,.own 42] 73),(42,.row snsF (Bs) 74 1)]⟩) ((kY (k:=43) rfl).trans yh) ?_;refine gq ?_;refine yH snsF [Nn] ?_;refine gq ?_;refine yr ((k+1,Bs++[Nn],z2)) (hJ:=by exact⟨v9,x2.s v2⟩) (hm:=by(show(brM (usV V) (16*m))-(k+1)<(brM (usV V) (16*m))-k;omega)) (hI:=kW)
  ·obtain rfl:k=(brM (usV V) (16*m)):=aa
   have v1:=x2;apply bH;refine yl (st':=⟨[(0,.sl strE Ns),(2,.sl bksE Kb),(7,.ptr 7 0 0 0),(8,.ptr 8 0 0 0),(15,.mp 50),(16,.ptr 16 0 0 0),(78,vosA (voL W)),(79,iv ((voL W).length:Int)),(80,iv (i:Int)),(21,.ptr 21 0 0 0)],[(7,.box [iv m,iv 1] 35),(1000001,.hold vs []),(8,.box [iv 0,iv 0,.nils] 38),(50,.mpb prE (λi:Int=>iv i) lm),(16,.box [iv m,iv 1,.own 41] 38),(41,.row svF (Ls) 73 3),(21,.box [.str nm,.sl bkE kb,.sl snsF Bs] 73)]⟩) ((kY (k:=42) rfl).trans yh) ?_;refine gq ?_;refine yH svF [⟨nm,kb,Bs⟩] ?_;refine gq ?_;refine yr ((i+1,Ls++[⟨nm,kb,Bs⟩])) (hJ:=by exact⟨j3,hk.s hV v1 k2 G⟩) (hm:=by(show W.length-(i+1)<W.length-i;omega)) (hI:=kW)
 ·obtain rfl:i=W.length:=aa
  apply bH;apply ye;refine yl (st':=⟨[(8,.ptr 8 0 0 0),(16,.ptr 16 0 0 0)],[(1000001,.hold vs []),(8,.box [iv 0,iv 0,.nils] 38),(16,.box [iv m,iv 1,.sl svF Ls] 38)]⟩) ((kY (k:=41) rfl).trans yh) ?_;apply yd;refine ya ?_;refine bF ?_;refine yk ?_;refine bC ?_;refine zm3.mk (⟨Ls,hk⟩) [(8,.ptr 8 0 0 0),(9,iv 0)] [(8,.box [iv m,iv 1,.sl svF Ls] 38)] (.inr rfl) (yh) (.many ac (.cons (.cellA rfl rfl rfl rfl ty38 (kZ rfl)) (.cons (.tmp rfl (kZ rfl)) .nil)))
end
section
variable{B:List (List Sn)}{Kb:List (List Bk)}{L:Int}{Ns:List ByteArray}{P:Program}{S:List Sv}{W:List (List Nu)}{az:List AV}{f:FuncId}{hs:List (Nat×Blk)}{k:Nat}{kp:List Nat}{m:Int}{s:Sn}{x:Nat×Int×Bool}{xs ys:List AV}{α ι:Type}{enc:α->List AV}{hs':ι->List (Nat×Blk)}{l:List α}
def ptsE:ByteArray×List Sg->List AV:=λp=>[.str p.1,sgsA p.2]
structure MkK(p:ByteArray×List Sg)(V:List Nu)(K:List Bk):Prop where
 r:Fn prog 6 [.agg (ptsE p)] (.tup [evsA (evL V),.agg [iv 0,iv 0]])
 b:Fn prog 21 [.agg (ptsE p)] (.tup [.sl bkE K,iv 0])
def LeV.tup{cs cs':List AV}(h:LeL cs cs'):LeV (.tup cs) (.tup cs'):=λI ρ v N=>by
 cases N with
 |tup _ vs hl Q=>
  obtain⟨h1,K⟩:=h.rvl (vs:=vs) ⟨hl,Q⟩;exact .tup cs' vs h1 K
def LeV.iny(k:IntKind)(n:Int):LeV (.int k n) (.iny k):=λI ρ v Q=>by cases Q;exact .iny _ _
def LeL.len(h:LeL xs ys):xs.length=ys.length:=by
 induction h<;>simp_all
theorem LeL.at(h:LeL xs ys):∀{j:Nat}{y:AV},ys[j]? =some y->∃x,xs[j]? =some x/\LeV x y:=by
 induction h<;>grind
theorem LeV.sl{β:Type}{enc':β->List AV}{l':List β}(hl:l.length=l'.length)(h:∀(i:Nat)(x:α)(y:β),l[i]? =some x->l'[i]? =some y->LeL (enc x) (enc' y)):LeV (.sl enc l) (.sl enc' l'):=λI ρ v N=>by
 obtain⟨A,b,o,s,c,vs,rfl,G,hc,hm,hs,hI,N⟩:=zcF N
 have get:∀(i:Nat)(y:β),l'[i]? =some y->∃x,l[i]? =some x/\LeL (enc x) (enc' y):=λi y Q=>by
  obtain⟨x,hx⟩:∃x,l[i]? =some x:=⟨_,lgg (by rw[hl];exact(j5.1 Q).1)⟩
  grind
 rw[hl];refine .sl enc' l' A b o s c vs (λhn=>G λe=>hn (jT (by rw[←hl,e];rfl))) aa hm (λi y Q=>?_) (λi y j Q H=>?_) (λi y j cell Q H=>?_)
 ·obtain⟨x,hx,he⟩:=get i y Q;rw[←he.len];exact hs i x hx
 ·grind
 ·obtain⟨x,hx,he⟩:=get i y Q;obtain⟨z,E,K⟩:=he.at H;exact K _ _ _ (N i x j z hx E)
def FnE.le{r r':ι->AV}(h:FnE P f az hs kp r hs')(hr:∀i,LeV (r i) (r' i)):FnE P f az hs kp r' hs':=
 ⟨h.1,λd ρ I O w args h1 Q=>Calls.mono (h.2 d ρ I O w args h1 Q) λe w'⟨i,v,ρ',I',O',a,b,c,q⟩=>⟨i,v,ρ',I',O',a,b,hr i _ _ _ c,q⟩⟩
def snC(V:List Nu)(x:Nat×Int×Bool):Sn:=⟨(V.getD x.1 default).R,(V.getD x.1 default).P,liL 8 x.2.1,x.2.2,0,(V.getD x.1 default).S,(V.getD x.1 default).Ps⟩
def baC(V:List Nu)(L:Int):List (List Sn):=(List.range (brM (usV V) L)).map λk=>(brK V L k).map (snC V)
def scC(W:List (List Nu))(Ns:List ByteArray)(Kb:List (List Bk))(L:Int):List Sv:=W.mapIdx λi V=>⟨Ns.getD i ⟨#[]⟩,Kb.getD i [],baC V L⟩
def zr3{V:List Nu}(h:k<brM (usV V) L):(baC V L)[k]? =some ((brK V L k).map (snC V)):=by simp_all[baC]
def zlI(V:List Nu)(L:Int):(baC V L).length=brM (usV V) L:=by unfold baC;simp
theorem zzL{V:List Nu}(h:SnK V x s):LeL (snF s) (snE (snC V x)):=by
 obtain⟨y,H,h1,Q,N,K⟩:=h.u;have e:V.getD x.1 default=y:=ak
 unfold snF snE snC;rw[e,h1,Q,N,K,h.v,h.t]
 repeat'(first|exact .nil|refine .cons ?_ ?_|exact bM _|exact LeV.iny _ _)
theorem zCy{V:List Nu}(h:BaK V L (brM (usV V) L) B):LeV (.sl snsF B) (.sl snsE (baC V L)):=by
 refine LeV.sl (by rw[zlI,h.l]) λk ns ns' hk Q=>?_
 have N:k<brM (usV V) L:=by rw[←h.l];exact(j5.1 hk).1
 rw[zr3 N]at Q;injection Q with Q;subst Q;have K:=h.k k ns hk;refine .cons (LeV.sl (by rw[jD,K.l]) λj s s' H G=>?_) .nil;obtain⟨x,hx,hs⟩:=K.k j s H
 grind[zzL]
def zCz(h:ScK W Ns Kb L W.length S):LeV (.sl svF S) (.sl svE (scC W Ns Kb L)):=by
 refine LeV.sl (by unfold scC;rw[List.length_mapIdx,h.l]) λi v v' N Q=>?_
 unfold scC at Q;rw[uR]at Q;obtain⟨V,K,rfl⟩:=u0.1 Q;obtain⟨h1,H,G⟩:=h.k i V v K N
 grind[LeV.eq,zCy,LeL,svF,svE]
def zHQ{V:List Nu}(h:VoK V)(he:∀u∈usV V,u%2=0)(h1:1<=m)(N:m<=8):BaK V (16*m) (brM (usV V) (16*m)) (baC V (16*m)):=by
 refine⟨zlI _ _,λk ns hk=>?_⟩;have Q:k<brM (usV V) (16*m):=by rw[←zlI];exact(j5.1 hk).1
 rw[zr3 Q]at hk;injection hk with hk;subst hk;refine⟨jD ..,λj s hs=>?_⟩;rw[j9]at hs;obtain⟨x,hx,rfl⟩:=u0.1 hs;have K:=zCx h he h1 N Q hx
 grind[snC,SnK]
def zuE{x:α}(h:l[k]? =some x):l.take k++[x]=l.take (k+1):=by rw[jK,h];rfl
theorem zuF(l:List α)(k:Nat):(l.take k).length<=l.length:=by grind
attribute [local irreducible] LeV yu FnE evL
def zlJ(Ps:List (ByteArray×List Sg))(W:List (List Nu))(h:VsK W)(he:∀V∈W,∀u∈usV V,u%2=0)(m:Int)(h1:1<=m)(h8:m<=8)(hb:∀V∈W,brM (usV V) (16*m)<=2000)(Kb:List (List Bk))(Q:Ps.length=W.length)(N:Kb.length=W.length)(hm:∀(i:Nat)(p:ByteArray×List Sg)(V:List Nu)(K:List Bk),Ps[i]? =some p->W[i]? =some V->Kb[i]? =some K->MkK p V K)(hn:Fn prog 46 [.sl strE (Ps.map (·.1))] (iv 0))(hf:Kb.flatten.length<=1000000)(xT:∀b∈Kb.flatten,BkK b)(hp:FnE prog 49 [vosA (voL W)] [] [] (ι:=List ((Int×Int)×Int)) (λ_=>.mp 50) (λl=>[(50,.mpb prE (λi:Int=>iv i) l)])):Fn prog 7 [.sl ptsE Ps,.agg [iv m,iv 1]] (.tup [.agg [iv m,iv 1,.sl svE (scC W (Ps.map (·.1)) Kb (16*m))],.agg [iv 0,iv 0]]):=by
 have v8:=h.l;have x2:(voL W).length=W.length:=jD ..;have H:(Ps.map (·.1)).length=Ps.length:=jD ..;have x1:=(znQ W h he m h1 h8 hb (Ps.map (·.1)) Kb (by rw[H];exact Q) N hn hf xT hp).le (r':=λ_=>.tup [.agg [iv m,iv 1,.sl svE (scC W (Ps.map (·.1)) Kb (16*m))],iv 0]) λS=>LeV.tup (.cons (LeV.agg (.cons (bM _) (.cons (bM _) (.cons (zCz S.2) .nil)))) (bK _))
 refine bB func7 ntmps7 (λg w d=>?_);refine gd ?_ ?_<;>intro v5
 ·omega
 apply yf;apply yc;refine ya ?_;apply yp;refine ya ?_;apply yp;refine yk ?_;iterate 2 apply ye
 refine yl (yz strE 9 1 6 41 rfl rfl) ?_;refine yl (yz vosE 28 1 7 42 rfl rfl) ?_;refine yl (yz bksE 70 1 8 43 rfl rfl) ?_;apply yd;refine yo ?_;apply kX;have z1:[]=(Ps.map (·.1)).take 0:=ah
 have z2:[]=(voL W).take 0:=ah
 have z3:[]=Kb.take 0:=ah
 refine y9 [3,4,5,6,7,8,22,23] (λk zz=>(24,iv (k:Int))::zz) [3,4,5] (λk zz=>(41,.row strE ((Ps.map (·.1)).take k) 9 1)::(42,.row vosE ((voL W).take k) 28 1)::(43,.row bksE (Kb.take k) 70 1)::zz) Ps.length (λk hk=>?_);refine gd ?_ ?_<;>intro v4
 ·have x0:=@getX _ Ps k aa;obtain⟨p,G,v3⟩:=x0;obtain⟨V,hV⟩:∃V,W[k]? =some V:=⟨_,lgg aa⟩;obtain⟨K,hK⟩:∃K,Kb[k]? =some K:=⟨_,lgg aa⟩;have E:=hm k p V K G hV hK;have s1:=zuE (show(Ps.map (·.1))[k]? =some p.1 by rw[j9,G];rfl);have s2:=zuE (zbj hV);have s3:=zuE hK;have l1:=zuF (Ps.map (·.1)) k;have l2:=zuF (voL W) k;have l3:=zuF Kb k;refine gc E.r ?_;refine gd ?_ ?_<;>intro w2
  ·exact absurd rfl w2
  refine gc E.b ?_;refine gd ?_ ?_<;>intro v9
  ·exact absurd rfl v9
  refine gq ?_;refine yH strE [p.1] ?_;refine gq ?_;refine yH vosE [_] ?_;refine gq ?_;refine yH bksE [_] ?_;refine gq ?_;refine yr (k+1) (hI:=kW)
 ·obtain rfl:k=Ps.length:=aa
  have e1:(Ps.map (·.1)).take Ps.length=Ps.map (·.1):=by rw[←H,jR]
  have e2:(voL W).take Ps.length=voL W:=by rw[Q,←x2,jR]
  have e3:Kb.take Ps.length=Kb:=by rw[Q,←N,jR]
  apply bH;apply ye;refine yl (st':=⟨[(3,.ptr 3 0 0 0),(4,.ptr 4 0 0 0),(5,.ptr 5 0 0 0),(6,.own 41),(7,.own 42),(8,.own 43)],[(3,.box [iv m,iv 1] 35),(4,.box [iv 0,iv 0,.nils] 38),(5,.box [iv 0,iv 0] 31),(41,.row strE (Ps.map (·.1)) 9 1),(42,.row vosE (voL W) 28 1),(43,.row bksE Kb 70 1)]⟩) kW ?_;refine yl (kY (k:=41) (by exact rfl)) ?_;refine yl (kY (k:=42) (by exact rfl)) ?_;refine yl (kY (k:=43) (by exact rfl)) ?_;apply yd;iterate 4 refine ya ?_
  refine zaB [] x1 (λS=>?_);refine gq ?_;refine bJ (.many ac (.cons (.cellA rfl rfl rfl rfl ty38 (kZ ?_)) (.cons (.cellA rfl rfl rfl rfl ty31 (kZ ?_)) .nil)));all_goals exact zR
end
section
variable{L:List Bk}{W:List Rdg}{b:Bk}{k q:Nat}{s:Sg}{x:Bk}{z:List Sg}{α:Type}
def tmLE:List Tm->List AV:=λl=>[tmsA l]
def crB(W:List Rdg)(i k:Nat):Bool:=(List.range k).all λj=>decide ((W.getD j default).Durs.getD i default=(W.getD 0 default).Durs.getD i default)
def crR(W:List Rdg)(n i:Nat):List Bool:=(List.range n).map λj=>decide (j<i)&&crB W j W.length
def crT(W:List Rdg)(n i k:Nat):List Bool:=(List.range n).map λj=>if j=i then crB W i k else decide (j<i)&&crB W j W.length
def zr4(f:Nat->α)(n i:Nat)(v:α):((List.range n).map f).set i v=(List.range n).map λj=>if j=i then v else f j:=by
 apply wN
 grind
def zHR(W:List Rdg)(n:Nat):List.replicate n false=crR W n 0:=by
 unfold crR;exact(List.eq_replicate_iff.2 ⟨ah,ah⟩).symm
def zHS(W:List Rdg)(n i:Nat):(crR W n i).set i true=crT W n i 0:=by unfold crR crT;rw[zr4];rfl
def zHT{n i:Nat}{r r0:Rdg}{t t0:Tm}(h:W[k]? =some r)(h0:W[0]? =some r0)(ht:r.Durs[i]? =some t)(Q:r0.Durs[i]? =some t0):(crT W n i k).set i (crB W i k&&decide (t=t0))=crT W n i (k+1):=by
 simp_all[crB,wR,crT,zr4]
def zHU(W:List Rdg)(n i:Nat):crT W n i W.length=crR W n (i+1):=by
 grind[crR,crT]
def zCA{n i:Nat}(h:i<n):(crT W n i k)[i]? =some (crB W i k):=by simp_all[crT]
def zuG(W:List Rdg)(n i k:Nat):(crT W n i k).length=n:=by unfold crT;simp
theorem zlK(W:List Rdg)(n i:Nat):(crR W n i).length=n:=by unfold crR;simp
def ctV(m:Mn)(l:List Sg):List Bool:=if aqE m l=15 then List.replicate (ntN l l.length) false else crR (aqV m l) (ntN l l.length) (ntN l l.length)
theorem zpe(m:Mn)(l:List Sg):(ctV m l).length=ntN l l.length:=by grind[ctV,zlK]
structure CtK(m:Mn)(l:List Sg):Prop where
 n:l.length<=400
 c:NC l
 e:aqE m l=0\/aqE m l=15
 d:∀r∈aqV m l,r.Durs.length=ntN l l.length
def zHV:∀(I:Im)(j:Nat)c,(zak false)[j]? =some c->RV I noNames c (.bool false):=λI j c h=>by
 rcases j with _|j
 ·simp[zak]at h;subst h;exact .bool _
 ·simp[zak]at h
def ctC(z:List Sg)(c:Sc):List Bool:=ctV c.M (rcV z c)
def hrL(r:List Sg)(n:List Int)(q:Nat):List Int:=((List.range q).filter λi=>decide (¬(r.getD i default).Kind=3)).map λi=>n.getD i default
def zHW{r:List Sg}{n:List Int}{i:Int}(hs:r[q]? =some s)(hi:n[q]? =some i)(h:¬s.Kind=3):hrL r n q++[i]=hrL r n (q+1):=by
 simp_all[hrL,wR]
def zHX{r:List Sg}{n:List Int}(hs:r[q]? =some s)(h:s.Kind=3):hrL r n q=hrL r n (q+1):=by
 simp_all[hrL,wR]
def zCB(r:List Sg)(n:List Int)(q:Nat):(hrL r n q).length<=q:=by
 grind[hrL]
def zr5{r:List Sg}(n:List Int):∀q,q<=r.length->(hrL r n q).length=ntN r q
 |0,_=>rfl
 |q+1,h=>by
  obtain⟨s,hs⟩:∃s,r[q]? =some s:=⟨_,lgg aa⟩;have ih:=zr5 (r:=r) n q aa
  grind[hrL,List.range_succ,ntN]
def zr6(l:List Sg)(F:Nat):∀n,(rcK l F n).1.length=(rcK l F n).2.length
 |0=>rfl
 |n+1=>by
  have:=zr6 l F n
  grind[rcK]
def zpf(l:List Sg)(s:Sc):(rcI l s).length=(rcV l s).length:=(zr6 _ _ _).symm
def zr7(l:List Sg)(F:Nat):∀n,(∀i∈(rcK l F n).2,(F:Int)<=i/\i<((F+n:Nat):Int))/\(rcK l F n).2.Pairwise (· < ·)
 |0=>by simp[rcK]
 |n+1=>by
  obtain⟨h1,Q⟩:=zr7 l F n
  grind[rcK]
def hrC(z:List Sg)(c:Sc):List Int:=hrL (rcV z c) (rcI z c) (rcI z c).length
def zpg(z:List Sg)(c:Sc):(hrC z c).length=(ctC z c).length:=by
 simp[hrC,ctC,zpe,zpf,zr5]
def zzM{c:Sc}(Q:ScR z.length c):(∀i∈hrC z c,0<=i/\i<z.length)/\(hrC z c).Pairwise (· < ·):=by
 obtain⟨h1,N⟩:=zr7 z c.F.toNat (c.T-c.F).toNat;have hf:=Q.f;have ht:=Q.t;have hn:=Q.n;change(∀i∈rcI z c,_)at h1;change(rcI z c).Pairwise _ at N;have H:∀i,i<(rcI z c).length->(rcI z c).getD i default∈rcI z c:=λi hi=>by rw[jB,lgg hi];exact wK _
 unfold hrC hrL;refine⟨λi hi=>?_,List.pairwise_map.2 ((List.pairwise_lt_range.filter _).imp_of_mem λ{a b}G E K=>?_)⟩;all_goals grind[List.pairwise_iff_getElem]
def cxZ(z:List Sg)(c:Sc):List Bk:=(urV (ctC z c)).map λp=>⟨3,(hrC z c).getD p.1.toNat default,(hrC z c).getD (p.2-1).toNat default⟩
def cxA(z:List Sg):List Bk:=(scV z).flatMap (cxZ z)
def zph(z:List Sg)(c:Sc):(cxZ z c).length<=(ctC z c).length+1:=by simp[cxZ,ztz]
def zxo{c:Sc}(h:(rcV z c).length<=400):(ctC z c).length<=400:=by grind[ctC,zpe,zfv]
def zHY{c:Sc}(h:(scV z)[k]? =some c):((scV z).take k).flatMap (cxZ z)++(cxZ z c).take (urX (ctC z c)).length=((scV z).take (k+1)).flatMap (cxZ z):=by
 grind[cxZ,List.take_of_length_le,zoj,zza]
def cxR(z:List Sg)(c:Sc)(k j:Nat):List Bk:=((scV z).take k).flatMap (cxZ z)++(cxZ z c).take j
def zuH(z:List Sg)(c:Sc)(k j:Nat):(cxR z c k j).length<=(cxA z).length+(cxZ z c).length:=by
 grind[zrl,cxR,cxA]
def zlL(hl:z.length<=400)(Q:∀c∈scV z,(rcV z c).length<=400):(cxA z).length<=160801:=by
 have h1:=ziL (f:=cxZ z) (b:=401) (L:=scV z) λc h=>jV (zph z c) (Nat.succ_le_succ (zxo (Q c h)))
 grind[zeO,cxA]
def zCC(hl:z.length<=400):∀b∈cxA z,BkK b:=λb Q=>by
 obtain⟨c,N,Q⟩:=x4.1 Q;obtain⟨p,K,rfl⟩:=jS.1 Q;obtain⟨p1,p2,p3⟩:=zwI K;obtain⟨q1,q2⟩:=zzM (zrN z c N);have hn:=zpg z c;have g1:(hrC z c).getD p.1.toNat default=(hrC z c)[p.1.toNat]'aa:=by rw[jB,lgg aa];rfl
 have g2:(hrC z c).getD (p.2-1).toNat default=(hrC z c)[(p.2-1).toNat]'aa:=by rw[jB,lgg aa];rfl
 have r1:=q1 _ (wK (show p.1.toNat<(hrC z c).length by omega));have r2:=q1 _ (wK (show(p.2-1).toNat<(hrC z c).length by omega));refine⟨⟨by show(1:Int)<=3;decide,by show(3:Int)<=3;decide⟩,⟨?_,?_⟩,?_⟩
 ·show 0<=_;rw[g1];exact r1.1
 ·show(hrC z c).getD p.1.toNat default<=(hrC z c).getD (p.2-1).toNat default;rw[g1,g2];by_cases e:p.1=p.2-1
  ·simp only[e];exact vD _
  ·exact vV (wF.1 q2 _ _ _ _ aa)
 grind
def bkS(L:List Bk):List Bk:=L.mergeSort (leOf λa b:Bk=>lxC (a.F,-a.T,a.K) (b.F,-b.T,b.K))
def zuI:b∈bkS L↔b∈L:=kR
def zpi(L:List Bk):(bkS L).length=L.length:=vP L
def znR(L:List Bk)(hl:L.length<=4000000000):
 FnO prog 44 [.own 2000000,.fn 45 []] [(2000000,.row bkE L 143 3)] [2000000] (.tup []) [(2000000,.row bkE (bkS L) 143 3)]:=
 zkW zj3 ae bkE 3 ac _ L hl _ (λa=>(a.F,-a.T,a.K)) Tryz.isAgg143 Tryz.sizeOf143 (λ_=>rfl)
  (λt c Q=>by simp[bkE]at Q;rcases Q with rfl|rfl|rfl<;>rfl) (λx _ y _=>zdy x y)
  (λx _ y _ h=>by
   obtain⟨a,b,c⟩:=x;obtain⟨d,e,f⟩:=y;simp at h;obtain⟨h1,H,N⟩:=h;subst h1;subst N;have:c=f:=aa
   rw[this])
def LLk(z:List Sg)(k:Nat):List Bk:=if k=0 then cxA z else[]
def mkR(z:List Sg)(k q:Nat):List Bk:=((List.range k).flatMap (LLk z))++(LLk z k).take q
def zCD(z:List Sg):[]=mkR z 0 0:=rfl
def zCE(h:(LLk z k)[q]? =some x):mkR z k q++[x]=mkR z k (q+1):=by simp_all[mkR,jK]
def zCF(z:List Sg)(k:Nat):mkR z k (LLk z k).length=mkR z (k+1) 0:=by simp[mkR,wR]
def zCG(z:List Sg):mkR z 3 0=cxA z:=by unfold mkR LLk;simp[wR]
def zzN(z:List Sg)(k q:Nat):(mkR z k q).length<=(cxA z).length*(k+1):=by
 have:∀k,(LLk z k).length<=(cxA z).length:=λk=>by unfold LLk;split<;>simp
 have h1:=ziL (f:=LLk z) (b:=(cxA z).length) (L:=List.range k) λi _=>this i
 have Q:=this k;unfold mkR
 grind[List.length_take,Nat.mul_comm]
def fK(k:Nat):FuncId:=if k=0 then 41 else if k=1 then 42 else 43
def zCH(h:k<3):([AV.fn 41 [],AV.fn 42 [],AV.fn 43 []])[(k:Int).toNat]? =some (AV.fn (fK k) []):=by
 all_goals grind[fK]
attribute [local irreducible] LeV yu ItX zaJ ntI urS urX urV cxR crB crR crT ctV ctC hrL hrC cxZ cxA scV rcV rcI aqE aqV ntN bkS mkR LLk fK
def zgp(m:Mn)(l:List Sg)(H:CtK m l):Fn prog 123 [mnA m,sgsA l] (.tup [.sl zak (ctV m l),iv 0]):=by
 have hl:=H.n;have v1:=zfv l l.length;have w2:=zHR (aqV m l) (ntN l l.length);have v0:=ztC m l;have v9:=zlK (aqV m l) (ntN l l.length) 0;have k9:((aqV m l).map (·.Durs)).length=(aqV m l).length:=jD ..;refine bB func123 ntmps123 (λg w d=>?_);apply yc;refine zl ?_;iterate 2 refine ya ?_
 apply yp;refine yk ?_;apply ye;apply yc;refine yo ?_;apply kX;have k8:ntN l 0=0:=by unfold ntN;rfl
 refine y9 [1,2,17,18] (λk zz=>(6,iv (ntN l k:Int))::(19,iv (k:Int))::zz) [2] (λ_ zz=>zz) l.length (λk hk=>?_);refine gd ?_ ?_<;>intro k7
 ·have Q:=@getX _ l k aa;obtain⟨s,hs,k6⟩:=Q;have k5:=zfv l k;refine gd ?_ ?_<;>intro G
  ·have N:=znv hs G;refine gq ?_;refine yr (k+1) (hI:=kW)
  ·have N:=zov hs G;refine gq ?_;refine yr (k+1) (hI:=kW)
 ·obtain rfl:k=l.length:=aa
  refine gq ?_;refine bP (zez (k:=30) (enc:=zak) false zdZ ti4 rfl ac rfl rfl rfl rfl aa (λ_=>rfl) zHV) rfl rfl ?_;refine gc (zjO m l aa H.c) ?_;refine gd ?_ ?_<;>intro xT
  ·have hV:List.replicate (ntN l l.length) false=ctV m l:=by unfold ctV;rw[j7 xT]
   apply yc;refine yo ?_;refine bC ?_;refine yi (kY (k:=30) rfl) ?_;refine yn ?_ ?_;all_goals(first|rfl|exact jA (λz=>AV.sl zak z) hV)
  have h0:aqE m l=0:=by have:=H.e;omega
  refine gd ?_ ?_<;>intro k4
  ·omega
  apply yf;apply yc;refine yk ?_;iterate 2 apply ye
  refine yl (yz tmLE 48 1 12 31 rfl rfl) ?_;apply yd;refine yo ?_;apply kX;have v8:[]=((aqV m l).take 0).map (·.Durs):=ah
  refine y9 [9,12,43,44] (λk zz=>(45,iv (k:Int))::zz) [30] (λk zz=>(31,.row tmLE (((aqV m l).take k).map (·.Durs)) 48 1)::zz) ((aqV m l).length) (λk hk=>?_);refine gd ?_ ?_<;>intro k3
  ·have Q:=@getX _ (aqV m l) k aa;obtain⟨r,hr,x2⟩:=Q;have N:((aqV m l).take k).map (·.Durs)++[r.Durs]=((aqV m l).take (k+1)).map (·.Durs):=by rw[jK,hr];simp
   have k2:(((aqV m l).take k).map (·.Durs)).length<=4096:=by rw[jD,jO];omega
   refine gq ?_;refine yH tmLE [r.Durs] ?_;refine gq ?_;refine yr (k+1) (hI:=kW)
  ·obtain rfl:k=(aqV m l).length:=aa
   have j4:((aqV m l).take (aqV m l).length).map (·.Durs)=(aqV m l).map (·.Durs):=by rw[jR]
   apply bH;(iterate 2 apply ye);refine yl (st':=⟨[(9,.own 30),(12,.own 31)],[(30,.row zak (crR (aqV m l) (ntN l l.length) 0) 4 1),(31,.row tmLE ((aqV m l).map (·.Durs)) 48 1)]⟩) kW ?_;refine yl (kY (k:=31) rfl) ?_;apply yd;refine yo ?_;apply kX;refine y9 [9,12,56] (λi zz=>(57,iv (i:Int))::zz) [] (λi zz=>(30,.row zak (crR (aqV m l) (ntN l l.length) i) 4 1)::zz) (ntN l l.length) (λi hk=>?_);have j3:=zlK (aqV m l) (ntN l l.length) i;refine gd ?_ ?_<;>intro j2
   ·have x1:i<(ntN l l.length):=aa
    have N:=zHS (aqV m l) (ntN l l.length) i;apply yf;apply ye;apply kX;apply yc;(iterate 2 refine ya ?_);apply yp;(iterate 3 refine ya ?_);refine yX (zaU true rfl rfl (λ_=>rfl) ac aa rfl rfl rfl rfl rfl ty4) ?_;apply yp;refine yo ?_;apply kX;refine y9 [9,12,15,56,57,64] (λk zz=>(65,iv (k:Int))::zz) [] (λk zz=>(30,.row zak (crT (aqV m l) (ntN l l.length) i k) 4 1)::zz) ((aqV m l).length) (λk hk=>?_);have j1:=zuG (aqV m l) (ntN l l.length) i k;refine gd ?_ ?_<;>intro j0
    ·have x0:k<(aqV m l).length:=aa
     obtain⟨r,hr⟩:∃r,(aqV m l)[k]? =some r:=⟨_,lgg x0⟩;obtain⟨r0,K⟩:∃r,(aqV m l)[0]? =some r:=⟨_,lgg aa⟩;have hZ:=H.d r (j6 hr);have hY:=H.d r0 (j6 K);obtain⟨t,ht⟩:∃t,r.Durs[i]? =some t:=⟨_,lgg aa⟩;obtain⟨t0,E⟩:∃t,r0.Durs[i]? =some t:=⟨_,lgg aa⟩;have hX:r.Durs[(i:Int).toNat]? =some t:=ao ht
     have v5:r0.Durs[(i:Int).toNat]? =some t0:=ao E
     have x2:((aqV m l).map (·.Durs))[(k:Int).toNat]? =some r.Durs:=by rw[jN,j9,hr];rfl
     have v4:((aqV m l).map (·.Durs))[(0:Int).toNat]? =some r0.Durs:=by rw[show(0:Int).toNat=0 from rfl,j9,K];rfl
     have hW:(crT (aqV m l) (ntN l l.length) i k)[(i:Int).toNat]? =some (crB (aqV m l) i k):=by rw[jN];exact zCA x1
     have v3:(crT (aqV m l) (ntN l l.length) i k).set (i:Int).toNat (crB (aqV m l) i k&&decide (t=t0))=crT (aqV m l) (ntN l l.length) i (k+1):=by rw[jN];exact zHT hr K ht E
     refine gq ?_;refine y4 [68,69,70,71,72,73,74,75,76,77,78,79,80,81,82,83,84,85,86,87,88,89] [0,0,0,0,12,28,60,124,124,508,1020,124,4092,8188,124,16508,49276,124,245884,508028,1048572,2097148,4194303,8388607] mo ?_;(iterate 5 refine yb ?_);refine ChM.step rfl rfl rfl (bA (zao rfl rfl ai rfl rfl ty4)) rfl ?_;refine yb ?_;(iterate 14 refine bL ?_);refine yb ?_;refine yD ?_;refine ya ?_;refine yX (zaU (crB (aqV m l) i k&&decide (t=t0)) rfl rfl (λ_=>rfl) ac aa rfl rfl rfl rfl rfl ty4) ?_;refine gq ?_;refine yr (k+1) (hI:=kW)
    ·obtain rfl:k=(aqV m l).length:=aa
     have v2:=zHU (aqV m l) (ntN l l.length) i;refine gq ?_;refine yr (i+1) (hI:=kW)
   ·obtain rfl:i=(ntN l l.length):=aa
    have hV:crR (aqV m l) (ntN l l.length) (ntN l l.length)=ctV m l:=by unfold ctV;rw[j8 aa]
    apply bH;apply yc;refine yo ?_;refine bC ?_;refine yi (kY (k:=30) rfl) ?_;refine yn ?_ ?_;all_goals(first|rfl|exact jA (λz=>AV.sl zak z) hV)
def zfB(nm:ByteArray)(z:List Sg)(h:PtK nm z)(hok:ScOk z)(G:∀c∈scV z,CtK c.M (rcV z c)):Fn prog 81 [.agg [.str nm,sgsA z]] (.tup [.sl zd6 ((scV z).map (ctC z)),.sl zcZ ((scV z).map (hrC z)),iv 0]):=by
 have hl:=h.hl;have k7:=zeO z;refine bB func81 ntmps81 (λg w d=>?_);refine gc (zab nm z h hok) ?_;refine gd ?_ ?_<;>intro E
 ·exact absurd rfl E
 apply yf;apply yc;refine ya ?_;apply yp;refine yk ?_;iterate 2 apply ye
 refine yl (yz zd6 207 1 7 40 rfl rfl) ?_;refine yl (yz zcZ 22 1 8 41 rfl rfl) ?_;apply yd;refine yo ?_;apply kX;have v5:[]=((scV z).take 0).map (ctC z):=ah
 have v4:[]=((scV z).take 0).map (hrC z):=ah
 refine y9 [1,7,8,26,27] (λk zz=>(28,iv (k:Int))::zz) [1] (λk zz=>(40,.row zd6 (((scV z).take k).map (ctC z)) 207 1)::(41,.row zcZ (((scV z).take k).map (hrC z)) 22 1)::zz) ((scV z).length) (λk hk=>?_);refine gd ?_ ?_<;>intro xT
 ·have Q:=@getX _ (scV z) k aa;obtain⟨c,H,xT⟩:=Q;have x2:=j6 H;have N:=G c x2;have k6:=N.n;have k5:=zpf z c;have v3:ctV c.M (rcV z c)=ctC z c:=by unfold ctC;rfl
  have v2:((scV z).take k).map (ctC z)++[ctC z c]=((scV z).take (k+1)).map (ctC z):=by rw[jK,H];simp
  have v1:((scV z).take k).map (hrC z)++[hrC z c]=((scV z).take (k+1)).map (hrC z):=by rw[jK,H];simp
  have v0:(((scV z).take k).map (ctC z)).length<=401:=by rw[jD,jO];omega
  have k9:(((scV z).take k).map (hrC z)).length<=401:=by rw[jD,jO];omega
  refine gc (zfq nm z h hok k c H) ?_;refine gd ?_ ?_<;>intro x1
  ·exact absurd rfl x1
  refine gc (zgp c.M (rcV z c) N) ?_;refine gd ?_ ?_<;>intro x0
  ·exact absurd rfl x0
  apply yf;apply yc;refine yk ?_;iterate 2 apply ye
  refine yl (yz intE 3 1 15 42 rfl rfl) ?_;apply yd;refine yo ?_;apply kX;have k8:[]=hrL (rcV z c) (rcI z c) 0:=by unfold hrL;rfl
  refine y9 [1,7,8,26,27,28,11,14,15,53,54] (λq zz=>(55,iv (q:Int))::zz) [1,40,41] (λq zz=>(42,.row intE (hrL (rcV z c) (rcI z c) q) 3 1)::zz) ((rcI z c).length) (λq hk=>?_);refine gd ?_ ?_<;>intro k4
  ·have Q:=@getX _ (rcV z c) q aa;obtain⟨s,hs,k3⟩:=Q;have Q:=@getX _ (rcI z c) q aa;obtain⟨n,hn,k2⟩:=Q;have j4:=zCB (rcV z c) (rcI z c) q;refine gd ?_ ?_<;>intro K
   ·have w2:=zHW hs hn K;refine gq ?_;refine yH intE [_] ?_;refine gq ?_;refine yr (q+1) (hI:=kW)
   ·have w2:=zHX (n:=rcI z c) hs K;refine gq ?_;refine yr (q+1) (hI:=kW)
  ·obtain rfl:q=(rcI z c).length:=aa
   have j3:hrL (rcV z c) (rcI z c) (rcI z c).length=hrC z c:=by unfold hrC;rfl
   apply bH;refine yl (st':=⟨[(1,.ptr 1 0 0 0),(7,.own 40),(8,.own 41),(26,scsA (scV z)),(27,iv ((scV z).length:Int)),(28,iv (k:Int)),(14,.sl zak (ctC z c)),(15,.own 42)],[(1,.box [.str nm,sgsA z] 26),(40,.row zd6 (((scV z).take k).map (ctC z)) 207 1),(41,.row zcZ (((scV z).take k).map (hrC z)) 22 1),(42,.row intE (hrC z c) 3 1)]⟩) kW ?_;refine yl (kY (k:=42) rfl) ?_;refine gq ?_;refine yH zd6 [ctC z c] ?_;refine gq ?_;refine yH zcZ [hrC z c] ?_;refine gq ?_;refine yr (k+1) (hI:=kW)
 ·obtain rfl:k=(scV z).length:=aa
  have v9:((scV z).take (scV z).length).map (ctC z)=(scV z).map (ctC z):=by rw[jR]
  have v8:((scV z).take (scV z).length).map (hrC z)=(scV z).map (hrC z):=by rw[jR]
  apply bH;apply yc;iterate 2 refine ya ?_
  refine yo ?_;refine bC ?_;refine yi ((kY (k:=40) rfl).trans (kY (k:=41) rfl)) ?_;refine bJ (.many ac (.cons (.tmp rfl (kZ ?_)) (.cons (.tmp rfl (kZ ?_)) (.cons (.tmp rfl (kZ ?_)) .nil))));all_goals(first|rfl|exact jA (λx=>AV.sl zd6 x) v9|exact jA (λx=>AV.sl zcZ x) v8)
def zg9(nm:ByteArray)(z:List Sg)(h:PtK nm z)(hok:ScOk z)(Q:∀c∈scV z,CtK c.M (rcV z c)):Fn prog 41 [.agg [.str nm,sgsA z]] (.tup [.sl bkE (cxA z),iv 0]):=by
 have hl:=h.hl;have v2:=zeO z;have v1:((scV z).map (ctC z)).length=(scV z).length:=jD ..;have v8:((scV z).map (hrC z)).length=(scV z).length:=jD ..;have v0:((scV z).flatMap (cxZ z)).length=(cxA z).length:=by unfold cxA;rfl
 have k9:=zlL h.hl λc N=>(Q c N).n
 refine bB func41 ntmps41 (λg w d=>?_);refine gc (zfB nm z h hok Q) ?_;refine gd ?_ ?_<;>intro G
 ·exact absurd rfl G
 apply yf;apply yc;refine yP ?_;apply bD;iterate 2 apply ye
 refine yl (zK bkE 142 3 7 40 70 rfl rfl) ?_;apply yd;refine yo ?_;apply kX;have v5:[]=((scV z).take 0).flatMap (cxZ z):=ah
 refine y9 [4,5,7,21] (λk zz=>(22,iv (k:Int))::zz) [5,7] (λk zz=>(40,.row bkE (((scV z).take k).flatMap (cxZ z)) 142 3)::zz) ((scV z).length) (λk hk=>?_);refine gd ?_ ?_<;>intro E
 ·have xT:=@getX _ (scV z) k aa;obtain⟨c,N,E⟩:=xT;have x2:=j6 N;have x1:=Q c x2;have k8:((scV z).map (ctC z))[(k:Int).toNat]? =some (ctC z c):=by rw[jN,j9,N];rfl
  have k7:((scV z).map (hrC z))[(k:Int).toNat]? =some (hrC z c):=by rw[jN,j9,N];rfl
  have k6:=zxo x1.n;have k5:=zpg z c;have v4:cxR z c k (urX (ctC z c)).length=((scV z).take (k+1)).flatMap (cxZ z):=by unfold cxR;exact zHY N
  refine gq ?_;refine zf (zeY (ctC z c)) ?_;apply bD;apply kX;have k4:((scV z).take k).flatMap (cxZ z)=cxR z c k 0:=by unfold cxR;simp
  refine bV (sl:=[4,5,7,8,21,22]) (λj=>([.sl zd6 ((scV z).map (ctC z)),.ptr 5 0 0 0,.ptr 7 0 0 0,.ptr 8 0 0 0,iv (((scV z).map (ctC z)).length:Int),iv (k:Int)],[(5,.box [.sl zcZ ((scV z).map (hrC z))] 201),(7,.box [.own 40] 70),(8,.box [iv (k:Int)] 3),(40,.row bkE (cxR z c k j) 142 3)])) (λj=>True) 900001 900002 rfl rfl ac (λj zs K=>by obtain⟨_,_,rfl⟩:=zkX K;rfl) ((zd0 (ctC z c) aa)) trivial rfl rfl ac (jU _) ah (λj zs K=>by obtain⟨_,_,rfl⟩:=zkX K;rfl) (λ_=>rfl) rfl rfl (λl o us=>kW) (trivial) (λj zs K hJ l ready busy rb vs g w hb k3=>?_) (λhJ=>?_)
  ·have x0:=zkX K;obtain⟨p,hp,rfl⟩:=x0;have w2:=zwI (j6 hp);obtain⟨p1,p2,p3⟩:=w2;obtain⟨a,ha⟩:∃a,(hrC z c)[p.1.toNat]? =some a:=⟨_,lgg aa⟩;obtain⟨b,v9⟩:∃b,(hrC z c)[(p.2-1).toNat]? =some b:=⟨_,lgg aa⟩
   have k2:cxR z c k j++[⟨3,a,b⟩]=cxR z c k (j+1):=by
    have:(cxZ z c)[j]? =some ⟨3,a,b⟩:=by unfold cxZ;rw[j9,hp];show some (⟨3,(hrC z c).getD p.1.toNat default,(hrC z c).getD (p.2-1).toNat default⟩:Bk)=_;rw[jB,ha,jB,v9];rfl
    unfold cxR;rw[jK,this,u4];rfl
   have j4:=zuH z c k j;have v3:=zph z c;apply yc;refine yk ?_;apply yd;refine yk ?_;refine⟨rfl,rfl,?_⟩;apply kX;refine y4 [32,33,34,35,36,37,38,39,40,41,42,43,44,45,46,47,48,49] [0,0,0,6,14,0,62,126,0,0,768,1792,0,4096,16128,32512,65534,131070,262143,524287] mo ?_;(iterate 17 refine yb ?_);refine ChM.step rfl rfl rfl (zx (k:=49) (enc:=bkE) (l:=[⟨3,a,b⟩]) sl70 zxW zto ac rfl rfl rfl rfl ac ac (λ_=>rfl) rfl) rfl ?_;refine yD ?_;(iterate 2 refine bF ?_);apply bD;refine⟨[.sl zd6 ((scV z).map (ctC z)),.ptr 5 0 0 0,.ptr 7 0 0 0,.ptr 8 0 0 0,iv (((scV z).map (ctC z)).length:Int),iv (k:Int)],[(5,.box [.sl zcZ ((scV z).map (hrC z))] 201),(7,.box [.own 40] 70),(8,.box [iv (k:Int)] 3),(40,.row bkE (cxR z c k (j+1)) 142 3)],kW,rfl,trivial⟩
  refine gq ?_;refine yr (k+1) (hI:=kW)
 ·obtain rfl:k=(scV z).length:=aa
  have H:((scV z).take (scV z).length).flatMap (cxZ z)=cxA z:=by rw[jR];unfold cxA;rfl
  apply bH;apply yc;refine yo ?_;refine bC ?_;refine yi (kY (k:=40) rfl) ?_;refine yn ?_ ?_;all_goals(first|rfl|exact jA (λx=>AV.sl bkE x) H)
def zj0(nm:ByteArray)(z:List Sg)(h:PtK nm z)(hok:ScOk z)(N:∀c∈scV z,CtK c.M (rcV z c))(K:∀s∈z,s.Color=false):Fn prog 21 [.agg [.str nm,sgsA z]] (.tup [.sl bkE (bkS (cxA z)),iv 0]):=by
 have E:=zlL h.hl λc hc=>(N c hc).n
 have v8:=zpi (cxA z);have xT:∀k,(LLk z k).length<=(cxA z).length:=λk=>by unfold LLk;split<;>simp
 have x0:=zCD z
 have hF:∀k,k<3->Fn prog (fK k) [.agg [.str nm,sgsA z]] (.tup [.sl bkE (LLk z k),iv 0]):=λk hk=>by
  unfold fK LLk
  match k,hk with
  |0,_=>exact zg9 nm z h hok N
  |1,_=>exact zfQ nm z h hok
  |2,_=>exact zfR nm z h hok K
 refine bB func21 ntmps21 (λg w d=>?_);apply yc;refine zl ?_;iterate 2 refine ya ?_
 apply yp;refine yk ?_;iterate 2 apply ye
 refine yl (yz bkE 143 3 4 40 rfl rfl) ?_;apply yd;refine yC ?_;apply kX;refine y9 [1,4,14] (λk zz=>(15,iv (k:Int))::zz) [1] (λk zz=>(40,.row bkE (mkR z k 0) 143 3)::zz) 3 (λk hk=>?_);refine gd ?_ ?_<;>intro v5
 ·have H:k<3:=aa
  have v4:=xT k;apply yf;apply ye;apply kX;apply yc;refine yO (zin zyt ty91 rfl rfl aa aa (zCH H)) rfl ?_;refine gc (hF k H) ?_;refine gd ?_ ?_<;>intro x2
  ·exact absurd rfl x2
  apply yf;apply yc;refine yo ?_;apply kX;refine y9 [1,4,14,15,27,28] (λq zz=>(29,iv (q:Int))::zz) [1] (λq zz=>(40,.row bkE (mkR z k q) 143 3)::zz) ((LLk z k).length) (λq hk=>?_);refine gd ?_ ?_<;>intro v3
  ·have Q:=@getX _ (LLk z k) q aa;obtain⟨x,hx,x1⟩:=Q;have G:=zCE hx;have v2:=zzN z k q;have w2:(cxA z).length*(k+1)<=482403:=kG E (show k+1<=3 by omega);refine gq ?_;refine yH bkE [x] ?_;refine gq ?_;refine yr (q+1) (hI:=kW)
  ·obtain rfl:q=(LLk z k).length:=aa
   have G:=zCF z k;refine gq ?_;refine yr (k+1) (hI:=kW)
 ·obtain rfl:k=3:=aa
  have v1:=zCG z;apply bH;apply ye;refine yl (st':=⟨[(4,.own 40)],[(40,.row bkE (cxA z) 143 3)]⟩) kW ?_;refine gq ?_;refine y0 [(2000000,40)] (znR (cxA z) aa) ?_;apply yp;refine yk ?_;iterate 2 apply ye
  refine yl (yz bkE 142 3 11 41 rfl rfl) ?_;apply yd;refine yo ?_;apply kX;have v9:[]=(bkS (cxA z)).take 0:=ah
  refine y9 [11,41,42] (λq zz=>(43,iv (q:Int))::zz) [40] (λq zz=>(41,.row bkE ((bkS (cxA z)).take q) 142 3)::zz) ((bkS (cxA z)).length) (λq hk=>?_);refine gd ?_ ?_<;>intro v0
  ·have Q:=@getX _ (bkS (cxA z)) q aa;obtain⟨x,hx,x1⟩:=Q;have G:=zuE hx;have k9:=zuF (bkS (cxA z)) q;apply yf;apply ye;apply kX;apply yc;refine ya ?_;refine yO (zQ rfl rfl ai rfl rfl zxX) rfl ?_;refine gq ?_;refine yH bkE [x] ?_;refine gq ?_;refine yr (q+1) (hI:=kW)
  ·obtain rfl:q=(bkS (cxA z)).length:=aa
   have hE:(bkS (cxA z)).take (bkS (cxA z)).length=bkS (cxA z):=jR;apply bH;apply yc;refine yo ?_;refine bC ?_;refine yi (kY (k:=41) rfl) ?_;refine yn ?_ ?_;all_goals(first|rfl|exact jA (λx=>AV.sl bkE x) hE)
end
section
variable{B:List (List Sn)}{V:List Nu}{W:List (List Nu)}{m:Int}
def PwK.app{S S':List (Nat×Int×Bool)}{n n':List Sn}(h:PwK V S n)(Q:PwK V S' n'):PwK V (S++S') (n++n'):=by
 refine⟨by rw[jJ,jJ,h.l,Q.l],λj s hs=>?_⟩;by_cases N:j<n.length
 ·rw[u5 N]at hs;obtain⟨x,hx,hk⟩:=h.k j s hs;exact⟨x,by rw[u5 (by rw[←h.l];exact N)];exact hx,hk⟩
 ·rw[wC aa]at hs;obtain⟨x,hx,hk⟩:=Q.k _ s hs;exact⟨x,by rw[wC (by rw[←h.l];omega),←h.l];exact hx,hk⟩
def zpj{V:List Nu}{L:Int}:∀(n i:Nat)(B:List (List Sn)),B.length=n->(∀(k:Nat)(ns:List Sn),B[k]? =some ns->PwK V (brK V L (i+k)) ns)->PwK V (brsT (usV V) L i n) B.flatten
 |0,i,B,hl,_=>by
  rw[jT hl];exact⟨rfl,λj s hs=>by simp at hs⟩
 |n+1,i,[],hl,_=>by simp at hl
 |n+1,i,b::B,hl,h=>by
  have ih:=zpj n (i+1) B (ao hl) λk ns hk=>by
   have:=h (k+1) ns hk;rw[show i+1+k=i+(k+1)by omega];exact this
  have h0:=h 0 b rfl;unfold brsT at ih⊢;rw[xJ,uH,kB];exact h0.app ih
def zr8{α:Type}{c:Nat}:∀{L:List (List α)},(∀x∈L,x.length<=c)->L.flatten.length<=L.length*c
 |[],_=>by simp
 |x::L,h=>by
  have h1:=h x ah;have N:=zr8 (L:=L) λy Q=>h y (wA _ Q)
  rw[kB,jJ,w5,Nat.add_mul];omega
def zCI(h:VoK V)(h1:1<=m)(H:brM (usV V) (16*m)<=2000)(Q:BaK V (16*m) (brM (usV V) (16*m)) B):SvK V B:=by
 have hf:=zpj (V:=V) (L:=16*m) _ 0 B Q.l λk ns hk=>by rw[u6];exact Q.k k ns hk
 have K:=zrY h.pos (show 0<16*m by omega) (brM (usV V) (16*m)) 0 aa
 have h0:brA (usV V) (16*m) 0=0:=by
  have:=zi0 h.pos;unfold brA;simp;omega
 rw[h0]at K;have hl:=Q.l
 have hn:B.flatten.length<=B.length*60:=zr8 λns N=>by
  obtain⟨k,hk⟩:=jL.1 N;rw[(Q.k k ns hk).l];exact zr1 h _ _
 exact⟨_,K,hf.l,hf.k,aa,by rw[←hf.l];omega⟩
def zzO(h:VsK W)(he:∀V∈W,∀u∈usV V,u%2=0)(h1:1<=m)(K:m<=8)(H:∀V∈W,brM (usV V) (16*m)<=2000)(Ns:List ByteArray)(Kb:List (List Bk))(n q:Int):Fn prog 10 [.agg [iv n,iv q,.sl svE (scC W Ns Kb (16*m))]] (.tup [vosA (voL W),iv 0]):=
 zk6 W h (scC W Ns Kb (16*m)) (by unfold scC;rw[List.length_mapIdx]) (λi V v N Q=>by
  unfold scC at Q;rw[uR,N]at Q;injection Q with Q;subst Q;have hm:=j6 N;exact zCI (h.k V hm) h1 (H V hm) (zHQ (h.k V hm) (he V hm) h1 K)) n q
end
section
variable{V:List Nu}{d:Int}{k:Nat}{p q:Pt}{x:Nu}
def kdN(i:Nat):Int:=match kndL[i]? with
 |some (.n x)=>x
 |_=>0
def zxp{s h:Int}(hs:0<=s/\s<7)(Q:0<=h/\h<13):(gcE kndL)[0+s.toNat*13+h.toNat*1]? =some (iv (kdN (s.toNat*13+h.toNat))):=by
 have h1:∀i:Fin 91,kndL[i.val]? =some (.n (kdN i.val)):=ac
 have N:=h1 ⟨s.toNat*13+h.toNat,aa⟩
 grind[GC.a]
def ivL(p q:Pt):Pt×Pt:=if piN q<piN p\/(piN q=piN p/\piH (piN q) q.Alt<piH (piN p) p.Alt)then(q,p)else(p,q)
def zxq(Q:PtV p)(N:PtV q):PtV (ivL p q).1/\PtV (ivL p q).2/\piN (ivL p q).1<=piN (ivL p q).2:=by
 grind[ivL]
def btS(p q:Pt):Int:=piN q-piN p
def btH(p q:Pt):Int:=piH (piN q) q.Alt-piH (piN p) p.Alt
def zCJ(Q:PtV p)(N:PtV q):-62<=btS p q/\btS p q<=62/\-130<=btH p q/\btH p q<=130:=by
 have h1:=Q.n;have K:=N.n;have H:=zo1 h1 Q.a;have G:=zo1 K N.a;unfold btS btH;omega
def zr9(p q:Pt)(h:PtV p)(Q:PtV q):Fn prog 248 [piA p,piA q] (.tup [.agg [iv (btS p q),iv (btH p q)],iv 0]):=zhU p q h Q
def ivS(p q:Pt):Int:=btS (ivL p q).1 (ivL p q).2
def ivH(p q:Pt):Int:=btH (ivL p q).1 (ivL p q).2
def zzP(Q:PtV p)(N:PtV q):0<=ivS p q/\ivS p q<=62/\-130<=ivH p q/\ivH p q<=130:=by
 obtain⟨h1,K,H⟩:=zxq Q N;have:=zCJ h1 K
 grind[ivS,ivH,btS]
def ivQ(p q:Pt):Int:=ivH p q-12*(ivS p q/7)
def ivK(p q:Pt):Int:=if(0<=ivQ p q/\ivQ p q<13)/\¬kdN ((ivS p q%7).toNat*13+(ivQ p q).toNat)=0 then kdN ((ivS p q%7).toNat*13+(ivQ p q).toNat)else 5
def zCK(Q:PtV p)(N:PtV q):-240<=ivQ p q/\ivQ p q<=130:=by
 have:=zzP Q N;unfold ivQ;omega
section
variable{P:Program}{C:Ctx}{st st':St}{ty:TypeId}
variable{t:TypeId}
def zgq{x y z:Operand}(h:yu P C (.mapUpdate t x y z) ty none st st'):yu P C (.insert t x y z) ty none st st':=λg a w pos af gd hr K Q=>h g a w pos af gd hr K Q
end
structure Cl where
 E:Int
 K:Int
def clE:Cl->List AV:=λc=>[iv c.E,iv c.K]
def kdM:List (Int×Int):=[(1,1),(-1,2),(3,3),(-4,3)]
def evG(V:List Nu)(k:Nat):Nu:=V.getD k default
def clK(V:List Nu):Nat->List Cl
 |0=>[]
 |k+1=>if k=0\/(evG V (k-1)).R=true\/(evG V k).R=true then clK V k else match mget (btS (evG V (k-1)).P (evG V k).P) kdM with
  |some d=>clK V k++[⟨(k:Int),d⟩]
  |none=>clK V k
def zmI(V:List Nu):∀k,(clK V k).length<=k/\∀c∈clK V k,1<=c.E/\c.E<k
 |0=>by simp[clK]
 |k+1=>by
  obtain⟨h1,Q⟩:=zmI V k
  grind[clK]
def zsa(h:V[k]? =some x):evG V k=x:=by simp_all[evG]
def zHZ(h:(evG V (k-1)).R=true\/(evG V k).R=true):clK V k=clK V (k+1):=by rw[clK,j7 (.inr h)]
def zH0(h0:¬k=0)(h1:(evG V (k-1)).R=false)(Q:(evG V k).R=false)(h:mget (btS (evG V (k-1)).P (evG V k).P) kdM=some d):clK V k++[⟨(k:Int),d⟩]=clK V (k+1):=by simp_all[clK]
def zH1(h0:¬k=0)(h1:(evG V (k-1)).R=false)(Q:(evG V k).R=false)(h:mget (btS (evG V (k-1)).P (evG V k).P) kdM=none):clK V k=clK V (k+1):=by simp_all[clK]
attribute [local irreducible] LeV yu ItX zaJ piN piH ivL evL clK mget kdM btS btH ivS ivH ivQ
def zha(p q:Pt)(K:PtV p)(H:PtV q):Fn prog 369 [piA p,piA q] (.tup [piA (ivL p q).1,piA (ivL p q).2]):=by
 generalize G:ivL p q=L;refine bB func369 ntmps369 (λg w d=>?_);refine gc (zbz p K) ?_;refine gc (zbz q H) ?_;refine gc (zej p K) ?_;refine zf (zej q H) ?_;iterate 2 refine ya ?_
 refine yo ?_;apply ye;apply yc;iterate 3 refine ya ?_
 refine bI 3 ?_;refine yw ?_;iterate 8 refine bE ?_
 refine gf ?_ ?_<;>intro N
 ·have Q:L=(q,p):=by rw[←G];unfold ivL;rw[j7 (by first|exact N|omega)]
  subst Q;apply ye;refine y4 [47,48] [0,0,1,7] mo ?_;iterate 2 refine yb ?_
  refine ChM.lt 1 ?_ ?_
  ·refine gq ?_;refine bJ (.many ac (.cons (.cellA rfl rfl rfl rfl ty60 (kZ ?_)) (.cons (.cellA rfl rfl rfl rfl ty60 (kZ ?_)) .nil)));all_goals rfl
  ·refine gq ?_;refine bJ (.many ac (.cons (.cellA rfl rfl rfl rfl ty60 (kZ ?_)) (.cons (.cellA rfl rfl rfl rfl ty60 (kZ ?_)) .nil)));all_goals rfl
 have Q:L=(p,q):=by rw[←G];unfold ivL;rw[j8 aa]
 subst Q;refine gq ?_;refine y4 [49,50] [0,0,1,7] mo ?_;iterate 2 refine yb ?_
 refine ChM.lt 1 ?_ ?_
 ·refine gq ?_;refine bJ (.many ac (.cons (.cellA rfl rfl rfl rfl ty60 (kZ ?_)) (.cons (.cellA rfl rfl rfl rfl ty60 (kZ ?_)) .nil)));all_goals rfl
 ·refine gq ?_;refine bJ (.many ac (.cons (.cellA rfl rfl rfl rfl ty60 (kZ ?_)) (.cons (.cellA rfl rfl rfl rfl ty60 (kZ ?_)) .nil)));all_goals rfl
def zfC(p q:Pt)(Q:PtV p)(N:PtV q):Fn prog 361 [piA p,piA q] (.tup [.agg [iv (ivS p q),iv (ivH p q)],iv 0]):=by
 have K:=zxq Q N;obtain⟨h1,E,h3⟩:=K;refine bB func361 ntmps361 (λg w d=>?_);refine gc (zaG p Q) ?_;refine gd ?_ ?_<;>intro H
 ·exact absurd rfl H
 refine gc (zaG q N) ?_;refine gd ?_ ?_<;>intro G
 ·exact absurd rfl G
 refine gc (zha p q Q N) ?_;refine gc (zr9 _ _ h1 E) ?_;refine yR zkR ?_ ?_;all_goals(first|rfl|(unfold ivS ivH;rfl))
def zgr(s h:Int)(hs:0<=s/\s<=62)(Q:-130<=h/\h<=130):Fn prog 362 [.agg [iv s,iv h]] (.agg [iv (s%7),iv (h-12*(s/7))]):=by
 refine bB func362 ntmps362 (λg w d=>?_);refine gq ?_;refine bJ (.one (.cellA rfl rfl rfl rfl zkR (kZ ?_)));all_goals rfl
def zgs(p q:Pt)(K:PtV p)(H:PtV q):Fn prog 339 [piA p,piA q] (.tup [.agg [iv (ivS p q%7),iv (ivQ p q)],iv 0]):=by
 have Q:=zzP K H;obtain⟨h1,G,E⟩:=Q;refine bB func339 ntmps339 (λg w d=>?_);refine gc (zfC p q K H) ?_;refine gd ?_ ?_<;>intro N
 ·exact absurd rfl N
 refine gc (zgr (ivS p q) (ivH p q) ⟨h1,G⟩ E) ?_;refine yR zkR ?_ ?_;all_goals(first|rfl|(unfold ivQ;rfl))
def zb5(p q:Pt)(K:PtV p)(H:PtV q):Fn prog 288 [piA p,piA q] (.tup [iv (ivK p q),iv 0]):=by
 have G:=zzP K H;obtain⟨h1,h2,h3⟩:=G;have E:=zCK K H;obtain⟨h4,h5⟩:=E;have h6:0<=ivS p q%7/\ivS p q%7<7:=aa
 refine bB func288 ntmps288 (λg w d=>?_);refine gc (zgs p q K H) ?_;refine gd ?_ ?_<;>intro xT
 ·exact absurd rfl xT
 refine gq ?_;refine y4 [17,18,19,20,21,22,23,24,25,26,27,28,29,30,31,32,33,34] [0,1,3,7,15,31,63,127,255,511,1023,511,2559,2047,16383,32767,65535,131071] mo ?_;iterate 4 refine yb ?_
 iterate 3 refine bL ?_
 iterate 2 refine yb ?_
 iterate 4 refine bL ?_
 refine bL ?_ (hs:=by intro Q;exact zaP rfl rfl ArK.h zx1 aa aa);refine bL ?_ (hs:=by intro Q;exact zaP rfl rfl ArK.h ty3 aa aa);refine bL ?_ (hs:=by intro Q;exact zaa rfl (zxp h6 ⟨aa,aa⟩) rfl ty3);refine bL ?_;refine yb ?_;refine yD ?_;refine gd ?_ ?_<;>intro N
 ·have hV:kdN ((ivS p q%7).toNat*13+(ivQ p q).toNat)=ivK p q:=by unfold ivK;rw[j7 ⟨aa,N.2⟩]
  apply ye;refine y4 [4,5,35,36,37,38,39,40,41] [0,1,0,4,3,31,63,127,255] mo ?_;iterate 4 refine yb ?_
  refine ChM.step rfl rfl rfl (bA (zaP rfl rfl ArK.h zx1 aa aa)) rfl ?_;refine ChM.step rfl rfl rfl (bA (zaP rfl rfl ArK.h ty3 aa aa)) rfl ?_;refine ChM.step rfl rfl rfl (bA (zaa rfl (zxp h6 ⟨aa,aa⟩) rfl ty3)) rfl ?_;iterate 2 refine yb ?_
  refine yD ?_;refine gq ?_;refine yn ?_ ?_;all_goals(first|rfl|(rw[hV]))
 have hV:(5:Int)=ivK p q:=by
  unfold ivK;rw[j8];intro hh;rcases N with h9|h9
  ·omega
  ·exact hh.2 h9
 refine gq ?_;refine yn ?_ ?_;all_goals(first|rfl|(rw[hV]))
def zaL(p q:Pt)(Q:PtV p)(N:PtV q):Fn prog 280 [piA p,piA q] (.agg [iv (btS p q),iv (btH p q)]):=by
 refine bB func280 ntmps280 (λg w d=>?_);refine gc (zr9 p q Q N) ?_;refine bJ (.one (.cellA rfl rfl rfl rfl zkR (kZ ?_)));all_goals rfl
def zhV(a b:Int)(N:Uq a)(K:Uq b):Fn prog 285 [tmA (tq a),tmA (tq b)] (iv (cmpI a b)):=by
 have Q:=zbB (tq a) (tq b);rw[zg8 N K]at Q;refine bB func285 ntmps285 (λg w d=>?_);refine gc Q ?_;all_goals rfl
def zhW:FnO prog 352 [] [] [] (.mp 1) [(1,.mpb (λi:Int=>iv i) (λi:Int=>iv i) kdM)]:=by
 have Q:mput (-4) 3 (mput 3 3 (mput (-1) 2 (mput 1 1 ([]:List (Int×Int)))))=kdM:=by unfold kdM;decide
 refine bR [] func352 ntmps352 (λg w d vs=>?_);refine gq ?_;refine bP (zaH (k:=1) (λi:Int=>iv i) (λi:Int=>iv i)) rfl rfl ?_;refine yX (zgq (zal (venc:=λi:Int=>iv i) 1 rfl rfl rfl rfl rfl ⟨Tryz.underlying125,_,Tryz.underlying3⟩ ⟨_,Tryz.underlying3,rfl⟩ (λ_ _=>rfl))) ?_;refine yX (zgq (zal (venc:=λi:Int=>iv i) 2 rfl rfl rfl rfl rfl ⟨Tryz.underlying125,_,Tryz.underlying3⟩ ⟨_,Tryz.underlying3,rfl⟩ (λ_ _=>rfl))) ?_;refine yX (zgq (zal (venc:=λi:Int=>iv i) 3 rfl rfl rfl rfl rfl ⟨Tryz.underlying125,_,Tryz.underlying3⟩ ⟨_,Tryz.underlying3,rfl⟩ (λ_ _=>rfl))) ?_;refine yX (zgq (zal (venc:=λi:Int=>iv i) 3 rfl rfl rfl rfl rfl ⟨Tryz.underlying125,_,Tryz.underlying3⟩ ⟨_,Tryz.underlying3,rfl⟩ (λ_ _=>rfl))) ?_;refine yC ?_;refine bC ?_;refine zm4.mk (ts:=[(0,.mp 1)]) (.inr rfl) (kW) (.one (.tmp rfl (kZ rfl)))
end
section
variable{d i:Int}{n q:Nat}{zs:List AV}{α κ:Type}{l:List (κ×α)}{x:α}
def zsb(t:Tm):Value:=.agg #[.int .i64 t.N,.int .i64 t.D]
def zsc:KeyL prog 35 (λt:Tm=>tmA t) zsb where
 val:=λI ρ x v h=>by
  obtain⟨vs,rfl,hl,Q⟩:=zaM h
  match vs,hl with
  |[a,b],_=>
   have h1:=yK (Q 0 _ a rfl rfl);have H:=yK (Q 1 _ b rfl rfl);subst h1;subst H;rfl
 of:=λI ρ x=>.agg _ [.int .i64 x.N,.int .i64 x.D] rfl λj c v K Q=>by
  rcases j with _|_|j
  ·simp[tmE]at K Q;subst K;subst Q;exact .int _ _
  ·simp[tmE]at K Q;subst K;subst Q;exact .int _ _
  ·simp[tmE]at K
 chk:=λem w x=>zwR ⟨_,_,Tryz.underlying35,ac,ac,ae,ae,rfl,rfl,ae,ae⟩ em w x.N x.D
 wide:=ae
 eq:=λw x y=>by
  have h:=run_equal_cells (P:=prog) (t:=35) (d:=2) (w:=w) (I:=λ_ _=>none) (ρ:=noNames) (xs:=tmE x) (ys:=tmE y) (vs:=[.int .i64 x.N,.int .i64 x.D]) (us:=[.int .i64 y.N,.int .i64 y.D]) ae ac
   ⟨rfl,λj c v K Q=>by
    rcases j with _|_|j
    ·simp[tmE]at K Q;subst K;subst Q;exact .int _ _
    ·simp[tmE]at K Q;subst K;subst Q;exact .int _ _
    ·simp[tmE]at K⟩
   ⟨rfl,λj c v K Q=>by
    rcases j with _|_|j
    ·simp[tmE]at K Q;subst K;subst Q;exact .int _ _
    ·simp[tmE]at K Q;subst K;subst Q;exact .int _ _
    ·simp[tmE]at K⟩ ae ae ae (b:=decide (x=y)) (zme x y)
  exact h
 stay:=λw x=>by simp[Instr.keyThatStays,Instr.sameBits,zsb]
structure EwK(V:List Nu)(k:Nat)(e:Ev):Prop where
 p:PtV e.P
 P:e.P=(evG V k).P
 r:e.R=(evG V k).R
 a:e.At=tq (pf (usV V) k)
 at':(evL V)[k]? =some e
def zd3{V:List Nu}(h:VoK V){k:Nat}(hk:k<V.length):∃e,EwK V k e:=by
 obtain⟨x,hx⟩:∃x,V[k]? =some x:=⟨_,lgg hk⟩;have:=zsa hx;exact⟨evA V k x,(h.k x (j6 hx)).p,by rw[this];rfl,by rw[this];rfl,rfl,zdJ hx⟩
def EwK.z{V:List Nu}{k:Nat}{e:Ev}(h:EwK V k e)(hi:i=(k:Int)):(evL V)[i.toNat]? =some e:=by rw[hi,jN];exact h.at'
def zgt[DecidableEq κ]{q:κ}{p:κ×α}(h:p∈kput q x l):p=(q,x)\/p∈l:=by
 grind[kput]
def zlM[DecidableEq κ]{q:κ}(h:(l.map (·.1)).Nodup):((kput q x l).map (·.1)).Nodup:=by
 grind[zkN]
def zsd[DecidableEq κ](q:κ)(x:α)(l:List (κ×α)):(kput q x l).length<=l.length+1:=by
 grind[kput]
def znS{κ α:Type}[DecidableEq κ]{q:κ}:∀(l:List (κ×α))(i j:Nat),kix q l i=some j->∃x,i<=j/\l[j-i]? =some (q,x)
 |[],i,j,h=>by simp[kix]at h
 |p::l,i,j,h=>by
  rw[kix]at h;split at h
  ·grind
  ·obtain⟨x,h1,Q⟩:=znS l (i+1) j h
   grind
def zse[DecidableEq κ]{q:κ}(h:kget q l=some x):(q,x)∈l:=by
 unfold kget at h;cases hk:kix q l 0 with
 |none=>grind
 |some j=>
  obtain⟨y,_,Q⟩:=znS l 0 j hk
  grind
def clL(V:List Nu):List Cl:=clK V V.length
def enM(V:List Nu)(d:Int):Nat->List (Tm×Int)
 |0=>[]
 |q+1=>match(clL V)[q]? with
  |some c=>if c.K=d then kput (tq (pf (usV V) c.E.toNat)) c.E (enM V d q)else enM V d q
  |none=>enM V d q
def zH2{V:List Nu}{c:Cl}(h:(clL V)[q]? =some c)(Q:c.K=d):kput (tq (pf (usV V) c.E.toNat)) c.E (enM V d q)=enM V d (q+1):=by simp_all[enM]
def zH3{V:List Nu}{c:Cl}(h:(clL V)[q]? =some c)(Q:¬c.K=d):enM V d q=enM V d (q+1):=by simp_all[enM]
def zxr{V:List Nu}{c:Cl}(h:(clL V)[q]? =some c):1<=c.E/\c.E<V.length:=(zmI V V.length).2 c (j6 h)
def zuJ(V:List Nu)(d:Int):∀q,(∀p∈enM V d q,∃n:Nat,1<=n/\n<V.length/\p=(tq (pf (usV V) n),(n:Int)))/\((enM V d q).map (·.1)).Nodup/\(enM V d q).length<=q
 |0=>by simp[enM]
 |q+1=>by
  obtain⟨h1,N,H⟩:=zuJ V d q;rw[enM];split
  ·rename_i c K;split
   ·refine⟨λp Q=>?_,zlM N,by have:=zsd (tq (pf (usV V) c.E.toNat)) c.E (enM V d q);omega⟩;rcases zgt Q with Q|Q
    ·have:=zxr K;exact⟨c.E.toNat,aa,aa,by rw[Q,Int.toNat_of_nonneg aa]⟩
    ·exact h1 p Q
   ·exact⟨h1,N,aa⟩
  grind
def enV(V:List Nu)(d:Int):List (Tm×Int):=enM V d (clL V).length
def zxs{V:List Nu}{p:Tm×Int}(h:p∈enV V d):∃n:Nat,1<=n/\n<V.length/\p=(tq (pf (usV V) n),(n:Int)):=(zuJ V d _).1 p h
def zpk{V:List Nu}(d:Int):(enV V d).length<=V.length:=jV (zuJ V d _).2.2 (zmI V V.length).1
def cdk(V U:List Nu)(n m:Nat):Int:=if btH (evG V (n-1)).P (evG V n).P=1 then 1 else if btH (evG U (m-1)).P (evG U m).P=-1 then 2 else 3
def prX(n:Nat):List (List AV):=(List.range n).flatMap λ(a:Nat)=>((List.range n).filter λ(b:Nat)=>decide (a≠b)).map λ(b:Nat)=>[iv (a:Int),iv (b:Int)]
def prN(n a b:Nat):Nat:=a*(n-1)+(b-if a<b then 1 else 0)
def zCL{a b:Nat}(hn:n<=2)(Q:a<n)(N:b<n)(h:¬a=b):(prX n)[prN n a b]? =some [iv (a:Int),iv (b:Int)]:=by
 match n,a,b with
 |2,0,1=>rfl
 |2,1,0=>rfl
 |1,0,0=>exact absurd rfl h
 |2,0,0=>exact absurd rfl h
 |2,1,1=>exact absurd rfl h
def znT{j:Nat}(hn:n<=2)(h:(prX n)[j]? =some zs):n=2/\j<2/\zs=[iv (j:Int),iv ((1:Int)-j)]:=by
 match n,hn with
 |0,_=>simp[prX]at h
 |1,_=>
  simp_all[prX]
 |2,_=>
  match j with
  |0=>have h:some [iv 0,iv 1]=some zs:=h;simp_all
  |1=>have h:some [iv 1,iv 0]=some zs:=h;simp_all
  |j+2=>have h:none=some zs:=h;cases h
def zH4{a b:Nat}(hn:n<=2)(Q:a<n)(N:b<n)(h:¬a=b):prN n a b+1=prN n a (b+1):=by
 match n,a,b with
 |2,0,1=>rfl
 |2,1,0=>rfl
 |1,0,0=>exact absurd rfl h
 |2,0,0=>exact absurd rfl h
 |2,1,1=>exact absurd rfl h
def zH5(n a:Nat):prN n a a=prN n a (a+1):=by unfold prN;simp
def zH6{a:Nat}(hn:n<=2)(Q:a<n):prN n a n=prN n (a+1) 0:=by
 all_goals grind[prN]
def zH7(hn:n<=2):prN n n 0=(prX n).length:=by
 match n,hn with
 |0,_=>rfl
 |1,_=>rfl
 |2,_=>rfl
attribute [local irreducible] LeV yu ItX zaJ piN piH evL clK clL mget kdM btS btH enM enV kput kget tq pf prN prX
def ze2(V:List Nu)(h:VoK V):Fn prog 337 [evsA (evL V)] (.sl clE (clL V)):=by
 have v8:=zj V;have v5:=h.l;have H:[]=clK V 1:=by unfold clK clK;rfl
 refine bB func337 ntmps337 (λg w d=>?_);refine gq ?_;refine y0 [(1,8)] zhW ?_;refine ya ?_;apply yp;refine yk ?_;iterate 2 apply ye
 refine yl (yz clE 521 2 4 40 rfl rfl) ?_;apply yd;refine yk ?_;apply kX;refine zag (ι:=Nat) [0,3,4] (λ(k:Nat)zz=>(5,iv (k:Int))::zz) [8] (λ(k:Nat)zz=>(40,.row clE (clK V k) 521 2)::zz) (λ(k:Nat)=>1<=k/\(k<=V.length\/k=1)) (λ(k:Nat)=>V.length-k) 1 (λk hk=>?_) (hJ:=by exact⟨jG _,.inr rfl⟩);obtain⟨v4,v3⟩:=hk;refine gd ?_ ?_<;>intro v2
 ·have x0:=zd3 h (k:=k-1) aa;obtain⟨e0,Q⟩:=x0;have w2:=zd3 h (k:=k) aa;obtain⟨e1,N⟩:=w2;have v1:=Q.z (i:=(k:Int)-1) aa;have v0:=N.z (i:=(k:Int)) rfl;have k9:=(zmI V k).1;apply yf;apply ye;apply kX;apply ye;apply yc;iterate 6 refine ya ?_
  refine bI 6 ?_;refine yw ?_;iterate 5 refine bE ?_
  refine gf ?_ ?_<;>intro K
  ·have G:clK V k=clK V (k+1):=zHZ (by rw[←Q.r,←N.r];exact K);refine gq ?_;refine yr (k+1) (hJ:=by exact⟨aa,.inl aa⟩) (hI:=kW)
  have E:=Q.r.symm.trans K.1;have xT:=N.r.symm.trans K.2;refine gq ?_;refine y4 [6,7,28,29,30,31,32,33,34,35,36,37,38,39,40,41,42,43,44,45] [0,0,0,4,14,30,62,0,0,384,896,1920,4094,8190,16383,32767,65535,65535,131071,524287] mo ?_;iterate 12 refine yb ?_
  refine yI (zaL e0.P e1.P Q.p N.p) ?_;refine ChM.step rfl rfl rfl (bA (zdQ (off:=0) (T:=3) ae ty3 rfl rfl)) rfl ?_;refine ChM.step rfl rfl rfl (bA (zng (venc:=λi:Int=>iv i) 0 rfl rfl rfl ⟨Tryz.underlying125,_,Tryz.underlying3⟩ ⟨_,Tryz.underlying3,rfl⟩ (λ_ _=>rfl) (zi2 ze3))) rfl ?_;iterate 5 refine yb ?_
  refine yD ?_;refine gd ?_ ?_<;>intro x2
  ·have v9:=u9.1 x2;obtain⟨d,hd⟩:=v9;have G:clK V k++[⟨(k:Int),(mget (btS e0.P e1.P) kdM).getD 0⟩]=clK V (k+1):=by rw[hd];exact zH0 aa E xT (by rw[←Q.P,←N.P];exact hd)
   refine gq ?_;refine yH clE [⟨(k:Int),(mget (btS e0.P e1.P) kdM).getD 0⟩] ?_;refine gq ?_;refine yr (k+1) (hJ:=by exact⟨aa,.inl aa⟩) (hI:=kW)
  ·have G:clK V k=clK V (k+1):=zH1 aa E xT (by rw[←Q.P,←N.P];simpa using x2);refine gq ?_;refine yr (k+1) (hJ:=by exact⟨aa,.inl aa⟩) (hI:=kW)
 ·have x1:clK V k=clL V:=by
   unfold clL;by_cases e:k=V.length
   ·rw[e]
   ·have e0:V.length=0:=aa
    have e1:k=1:=aa
    rw[e0,e1,←H];unfold clK;rfl
  apply bH;apply yc;refine yC ?_;refine bC ?_;refine yi (kY (k:=40) rfl) ?_;refine gq ?_;all_goals(first|rfl|exact jA (λz=>AV.sl clE z) x1)
def zem(V:List Nu)(h:VoK V)(kd:Int):FnO prog 279 [evsA (evL V),iv kd] [] [] (.mp 8) [(8,.mpb (λt:Tm=>tmA t) (λi:Int=>iv i) (enV V kd))]:=by
 have w2:=zj V;have v9:=h.l;have v8:[]=enM V kd 0:=by unfold enM;rfl
 have v5:(clL V).length<=V.length:=by unfold clL;exact(zmI V V.length).1
 have x0:enM V kd (clL V).length=enV V kd:=by unfold enV;rfl
 refine bR [] func279 ntmps279 (λg w d vs=>?_);refine gq ?_;refine bP (zaH (k:=8) (λt:Tm=>tmA t) (λi:Int=>iv i)) rfl rfl ?_;refine gq ?_;refine zf (ze2 V h) ?_;refine yC ?_;apply kX;refine y9 [0,1,5,10,11] (λk zz=>(12,iv (k:Int))::zz) [1000001] (λk zz=>(8,.mpb (λt:Tm=>tmA t) (λi:Int=>iv i) (enM V kd k))::zz) ((clL V).length) (λk hk=>?_);refine gd ?_ ?_<;>intro v4
 ·have H:=@getX _ (clL V) k aa;obtain⟨c,G,Q⟩:=H;have v3:=zxr G;have xT:=zd3 h (k:=c.E.toNat) aa;obtain⟨e1,K⟩:=xT;have v2:=K.at';have x2:(AV.agg [iv e1.At.N,iv e1.At.D]:AV)=tmA (tq (pf (usV V) c.E.toNat)):=by rw[←K.a];rfl
  refine gd ?_ ?_<;>intro Q
  ·have x1:=zH2 G Q;refine y4 [20,21,22,23,24,25,26,27,28] [0,0,0,4,14,30,62,0,128,511] mo ?_;(iterate 9 refine yb ?_);refine yD ?_;refine yX (zck (q:=tq (pf (usV V) c.E.toNat)) (venc:=λi:Int=>iv i) c.E zsc rfl rfl rfl x2 rfl rfl Tryz.underlying469 (λ_ _=>rfl)) ?_;refine gq ?_;refine yr (k+1) (hI:=kW)
  ·have x1:=zH3 G Q;refine gq ?_;refine yr (k+1) (hI:=kW)
 ·obtain rfl:k=(clL V).length:=aa
  apply bH;apply yc;refine yC ?_;refine bC ?_;refine zm4.mk (ts:=[(4,.mp 8)]) (.inr rfl) (kW) (.one (.tmp rfl (kZ rfl)))
def zhX(W:List (List Nu))(h:VsK W):Fn prog 277 [vosA (voL W)] (iv 0):=by
 have H:=h.l;have G:(voL W).length=W.length:=jD ..;refine bB func277 ntmps277 (λg w d=>?_);refine gd ?_ ?_<;>intro E
 ·omega
 apply yf;apply ye;apply yc;refine yo ?_;apply kX;refine y9 [10,11] (λk zz=>(12,iv (k:Int))::zz) [] (λ_ zz=>zz) W.length (λk hk=>?_);refine gd ?_ ?_<;>intro xT
 ·obtain⟨V,K⟩:∃V,W[k]? =some V:=⟨_,lgg aa⟩;have Q:=zbj K;have x2:(voL W)[(k:Int).toNat]? =some (evL V):=ao Q
  refine gc (zbW V (h.k V (j6 K))) ?_;refine gd ?_ ?_<;>intro N
  ·exact absurd rfl N
  refine gq ?_;refine yr (k+1) (hI:=kW)
 ·refine gq ?_;all_goals rfl
def zi3(V U:List Nu)(hV:VoK V)(hU:VoK U)(n m:Nat)(h1:1<=n)(h2:n<V.length)(h3:1<=m)(h4:m<U.length):Fn prog 282 [evsA (evL V),iv (n:Int),evsA (evL U),iv (m:Int)] (iv (cdk V U n m)):=by
 have w2:=zj V;have v9:=zj U;have v8:=hV.l;have v5:=hU.l;have xT:=zd3 hV (k:=n-1) aa;obtain⟨e0,Q⟩:=xT;have x2:=zd3 hV (k:=n) h2;obtain⟨e1,N⟩:=x2;have x1:=zd3 hU (k:=m-1) aa;obtain⟨e2,K⟩:=x1;have x0:=zd3 hU (k:=m) h4;obtain⟨e3,H⟩:=x0;have v4:=Q.z (i:=(n:Int)-1) aa;have v3:=N.z (i:=(n:Int)) rfl;have v2:=K.z (i:=(m:Int)-1) aa;have v1:=H.z (i:=(m:Int)) rfl;have hQ:cdk V U n m=if btH e0.P e1.P=1 then 1 else if btH e2.P e3.P=-1 then 2 else 3:=by unfold cdk;rw[Q.P,N.P,K.P,H.P]
 refine bB func282 ntmps282 (λg w d=>?_);refine gq ?_;refine y4 [9,10,11,12,13,14,15,16,17,18,19,20,21,22,23] [0,0,2,7,15,31,0,0,192,448,960,2047,4095,8191,16383] mo ?_;iterate 11 refine yb ?_
 refine yI (zaL e0.P e1.P Q.p N.p) ?_;refine ChM.step rfl rfl rfl (bA (zdQ (off:=1) (T:=3) ae ty3 rfl rfl)) rfl ?_;iterate 2 refine yb ?_
 refine yD ?_;refine gd ?_ ?_<;>intro G
 ·refine gq ?_;all_goals(rw[hQ,j7 G])
 apply ye;refine y4 [24,25,26,27,28,29,30,31,32,33,34,35,36,37,38] [0,0,2,7,15,31,0,0,192,448,960,2047,4095,8191,16383] mo ?_;iterate 11 refine yb ?_
 refine yI (zaL e2.P e3.P K.p H.p) ?_;refine ChM.step rfl rfl rfl (bA (zdQ (off:=1) (T:=3) ae ty3 rfl rfl)) rfl ?_;iterate 2 refine yb ?_
 refine yD ?_;refine gd ?_ ?_<;>intro E
 ·refine gq ?_;all_goals(rw[hQ,j8 G,j7 E])
 refine gq ?_;all_goals(rw[hQ,j8 G,j8 E])
def zi4(W:List (List Nu))(h:VsK W)(c t:Int)(a:Tm)(s:Int)(Q:∀i:Nat,i<W.length->(i:Int)=c\/(i:Int)=t):Fn prog 281 [vosA (voL W),tmA a,iv s,iv c,iv t] (iv (-1)):=by
 have K:=h.l;have H:(voL W).length=W.length:=jD ..;refine bB func281 ntmps281 (λg w d=>?_);apply yc;refine zl ?_;refine yk ?_;apply ye;apply yc;refine yo ?_;apply kX;refine y9 [3,4,15,16] (λk zz=>(17,iv (k:Int))::zz) [] (λ_ zz=>zz) W.length (λk hk=>?_);refine gd ?_ ?_<;>intro G
 ·obtain⟨V,E⟩:∃V,W[k]? =some V:=⟨_,lgg aa⟩;have N:=zbj E;have xT:(voL W)[(k:Int).toNat]? =some (evL V):=ao N
  have x2:=Q k aa;apply yf;apply ye;apply kX;apply yc;iterate 2 refine ya ?_
  refine yo ?_;apply ye;apply yc;iterate 3 refine ya ?_
  refine bI 3 ?_;refine yw ?_;iterate 3 refine bE ?_
  refine gf ?_ ?_<;>intro x1
  ·refine gq ?_;refine yr (k+1) (hI:=kW)
  omega
 ·refine gq ?_;all_goals rfl
def zhY(n:Nat):Fn prog 278 [iv (n:Int)] (.fn 336 [.ept (λ_:Unit=>[iv (n:Int)]) () 0]):=by
 refine bB func278 ntmps278 (λg w d=>?_);apply yc;refine zax ?_;refine ya ?_;apply yp;refine yC ?_;refine bC ?_;refine yi (bG (k:=1) rfl rfl) ?_;refine gq ?_;all_goals rfl
def zgu(n:Nat)(hn:n<=2):It prog 336 [.ept (λ_:Unit=>[iv (n:Int)]) () 0] (prX n):=by
 have hz:0=prN n 0 0:=by unfold prN;simp
 refine zc1 func336 ntmps336 (λg w d ds Y lY hY=>?_);apply yc;refine yC ?_;apply kX;refine y9 [0,1,5] (λa zz=>(6,iv (a:Int))::zz) [] (λa zz=>(1000000,.yld (prN n a 0) true)::zz) n (λa hk=>?_);refine gd ?_ ?_<;>intro x0
 ·apply yf;apply ye;apply kX;apply yc;iterate 2 refine ya ?_
  apply yp;refine yC ?_;apply kX;refine y9 [0,1,3,5,6,9] (λb zz=>(10,iv (b:Int))::zz) [] (λb zz=>(1000000,.yld (prN n a b) true)::zz) n (λb hk=>?_);refine gd ?_ ?_<;>intro w2
  ·apply yf;apply ye;apply kX;apply yc;refine yC ?_;apply ye;have xT:a=b\/¬a=b:=Classical.em _;rcases xT with Q|Q
   ·have N:(!decide ((a:Int)=(b:Int)))=false:=by simp[Q]
    have K:((!decide ((a:Int)=(b:Int)))==true)=false:=by rw[N];rfl
    have H:prN n a b=prN n a (b+1):=by subst Q;exact zH5 n a
    apply yd;(iterate 4 refine ya ?_);(iterate 5 refine zbc ?_);refine yO (zcj rfl N rfl) rfl ?_;refine gd ?_ ?_<;>intro x2
    ·cases x2
    refine gq ?_;refine yr (b+1) (hI:=kW)
   ·have N:(!decide ((a:Int)=(b:Int)))=true:=aj
    have K:((!decide ((a:Int)=(b:Int)))==true)=true:=by rw[N];rfl
    have x1:=zCL hn aa aa Q;have H:=zH4 hn aa aa Q;apply yd;(iterate 4 refine ya ?_);(iterate 3 refine zS ?_);refine zbT hY rfl rfl rfl (λ_=>⟨_,_,rfl,rfl,rfl,bK _,rfl,rfl,x1,λbb=>?_⟩) (λh=>absurd (h.symm.trans K) ac);refine zS ?_;refine yO (zey rfl N rfl) rfl ?_;refine gd ?_ ?_<;>intro G
    ·subst G;refine bC ?_;refine⟨.inr rfl,_,false,rfl,λhb=>by simp at hb⟩
    subst G;refine gq ?_;refine yr (b+1) (hI:=kW)
  ·obtain rfl:b=n:=aa
   have H:=zH6 hn (a:=a) aa;refine gq ?_;refine yr (a+1) (hI:=kW)
 ·obtain rfl:a=n:=aa
  have E:=zH7 hn;apply bH;refine⟨.inl rfl,_,true,rfl,λ_=>E⟩
end
end Go.Rse
namespace Go.Rse
open Go Go.RowKit Go.Proofs.Tryz
section
variable{κ:Type}[DecidableEq κ]
end
structure RnJ(n:Nat)(s:Array Nat):Prop where
 nd:s.toList.Nodup
 lt:∀x∈s.toList,x<n
def RnJ.z(n:Nat):RnJ n #[]:=⟨ah,ah⟩
def RnJ.s{n i:Nat}{s:Array Nat}(h:RnJ n s)(hi:i<n)(N:s.contains i=false):RnJ n (s.push i):=by
 have hn:i∉s.toList:=λhm=>by
  have:s.contains i=true:=ao hm
  rw[N]at this;cases this
 refine⟨?_,λx hx=>?_⟩
 ·rw[Array.toList_push];refine xC.2 ⟨h.nd,ah,λx hx y Q e=>?_⟩;simp at Q;subst Q;subst e;exact hn hx
 ·rw[Array.toList_push]at hx;rcases w9.1 hx with hx|hx
  ·exact h.lt x hx
  ·simp at hx;omega
def zlN:∀(n:Nat)(L:List Nat),L.Nodup->(∀x∈L,x<n)->L.length<=n
 |0,L,_,h=>by
  cases L with
  |nil=>simp
  |cons x r=>exact absurd (h x ah) aa
 |n+1,L,h1,Q=>by
  have K:=zlN n (L.erase n) (h1.erase n) λx hx=>by
   have:=Q x (List.mem_of_mem_erase hx)
   have N:x≠n:=λe=>by
    subst e;exact(List.Nodup.not_mem_erase h1) hx
   omega
  grind
def RnJ.le{n:Nat}{s:Array Nat}(h:RnJ n s):s.size<=n:=by
 have:=zlN n s.toList h.nd h.lt;simpa using this
section
variable{κ:Type}[Inhabited κ]
end
end Go.Rse
