/-
  Walks.
-/
import Derived.Test.YtamceaedmdmmlaaGreatDoorZJMens2
set_option linter.all false
set_option maxHeartbeats 4000000
namespace Go.Rse
open Go Go.Proofs Go.Proofs.Tryz
section
attribute [local irreducible] Pur yy yz Ex X Fn Imp LeV LeB FnO It yH
def zkk{α:Type}{a b:List α}{k:Nat}{x:α}(Z:a[k]? =some x)(V:b[k]? =some x)(h:a.take k=b.take k):a.take (k+1)=b.take (k+1):=by
 rw[jG,jG,Z,V,h]
def zoy{α:Type}{a b:List α}{k:Nat}(hl:a.length=b.length)(hk:a.length<=k)(h:a.take k=b.take k):a=b:=by
 rwa[wC hk,wC (by omega)]at h
def zwc{α:Type}{a b:List α}{k:Nat}{x y:α}(V:a[k]? =some x)(Z:b[k]? =some y)(h:x≠y):a≠b:=λe=>by
 subst e;rw[V]at Z;injection Z with Z;exact h Z
def zqT:Sg:=⟨3,0,0,0,false,0,false,false,⟨0,0,0,0⟩,false,0,0,0,0⟩
def zqU{a n:Int}(hn:0<n):(a.tmod n<0->a.tmod n+n=a%n)/\(¬a.tmod n<0->a.tmod n=a%n)/\-n<a.tmod n/\a.tmod n<n:=by
 rw[Int.tmod_eq_emod];have h0:=uS a (show n≠0 by omega);have h1:=uD a hn;split<;>omega
def mMk(n:Int):Mn:=⟨2+n%16/8,2+n%16/4%2,2+n%16/2%2,2+n%16%2⟩
def zxB(n:Int):ckM (mMk n)=0:=by
 unfold ckM;rw[j6];unfold Mn.Ok two3 mMk;exact⟨by show 2+n%16/8=2\/2+n%16/8=3;omega,by show 2+n%16/4%2=2\/2+n%16/4%2=3;omega,by show 2+n%16/2%2=2\/2+n%16/2%2=3;omega,by show 2+n%16%2=2\/2+n%16%2=3;omega⟩
def ztu{l:List Int}{x:Int}(h:∀(i:Nat)u,i<l.length->l[i]? =some u->¬u=x):¬x∈l:=λhx=>by
 obtain⟨i,hi⟩:=jQ.1 hx;exact h i x (j5.1 hi).1 hi rfl
attribute [local irreducible] gI mMk
def zbT(a b:List Tm)(hl:a.length<=4000000000):Fn prog 12 [tmsA a,tmsA b] (.bool (decide (a=b))):=by
 refine kR func12 ntmps12 (λg w d=>?_);refine gd ?_ ?_<;>intro N
 ·refine gq ?_;all_goals(congr 1;exact(jH λe=>by subst e;omega).symm)
 apply yk;apply yh;apply ye;refine yj ?_;apply kP;refine zW (λk=>[(0,tmsA a),(1,tmsA b),(5,iv (k:Int))]) (λk=>[]) (λk=>k<=a.length/\a.take k=b.take k) a.length (λk hk=>?_) (hJ:=by exact⟨by omega,rfl⟩) (h0:=yd);obtain⟨J,U⟩:=hk;refine gd ?_ ?_<;>intro H
 ·have V:=@getX _ a k (by omega);obtain⟨x,hx,G⟩:=V;have V:=@getX _ b k (by omega);obtain⟨y,T,E⟩:=V;refine gq ?_;refine yW [17,18,19,20,21,22,23,24,25] [0,0,3,7,0,0,48,112,255] mo ?_;iterate 9 refine yb ?_
  refine yI ?_;refine gd ?_ ?_<;>intro Z
  ·refine gq ?_;all_goals(congr 1;exact(jH (zwc hx T (by simpa using Z))).symm)
  refine gq ?_;refine yu (k+1) (hJ:=by exact⟨by omega,zkk hx (by rw[T];congr 1;first|exact(by simpa using Z:x=y).symm|(simp at Z;exact Z.symm)) U⟩)
 ·refine gq ?_;all_goals(congr 1;exact(jJ (zoy (by omega) (by omega) U)).symm)
def zaG(a b:List Sg)(hl:a.length<=4000000000):Fn prog 21 [sgsA a,sgsA b] (.bool (decide (a=b))):=by
 refine kR func21 ntmps21 (λg w d=>?_);refine gd ?_ ?_<;>intro N
 ·refine gq ?_;all_goals(congr 1;exact(jH λe=>by subst e;omega).symm)
 apply yk;apply yh;apply ye;refine yj ?_;apply kP;refine zW (λk=>[(0,sgsA a),(1,sgsA b),(5,iv (k:Int))]) (λk=>[]) (λk=>k<=a.length/\a.take k=b.take k) a.length (λk hk=>?_) (hJ:=by exact⟨by omega,rfl⟩) (h0:=yd);obtain⟨J,U⟩:=hk;refine gd ?_ ?_<;>intro H
 ·have V:=@getX _ a k (by omega);obtain⟨x,hx,G⟩:=V;have V:=@getX _ b k (by omega);obtain⟨y,T,E⟩:=V;refine gq ?_;refine yW [17,18,19,20,21,22,23,24,25] [0,0,3,7,0,0,48,112,255] mo ?_;iterate 9 refine yb ?_
  refine yI ?_;refine gd ?_ ?_<;>intro Z
  ·refine gq ?_;all_goals(congr 1;exact(jH (zwc hx T (by simpa using Z))).symm)
  refine gq ?_;refine yu (k+1) (hJ:=by exact⟨by omega,zkk hx (by rw[T];congr 1;first|exact(by simpa using Z:x=y).symm|(simp at Z;exact Z.symm)) U⟩)
 ·refine gq ?_;all_goals(congr 1;exact(jJ (zoy (by omega) (by omega) U)).symm)
def zci(a n:Int)(H:-9223372036854775808<=a/\a<=9223372036854775807)(hn:1<=n/\n<=4611686018427387904):Fn prog 26 [iv a,iv n] (iv (a%n)):=by
 obtain⟨Z,V,U,T⟩:=zqU (a:=a) (n:=n) (by omega);refine kR func26 ntmps26 (λg w d=>?_);refine gd ?_ ?_<;>intro N
 ·omega
 apply yk;apply ye;iterate 2 refine ya ?_
 refine zo (zwU rfl rfl (by omega)) rfl ?_;refine gd ?_ ?_<;>intro J
 ·refine gq ?_;all_goals(congr 1;exact Z (by omega))
 ·refine gq ?_;all_goals(congr 1;exact V (by omega))
def zhi(n:Int)(hn:-9223372036854775808<=n/\n<=9223372036854775807):Fn prog 5 [iv n] (mnA (mMk n)):=by
 unfold mMk;refine kR func5 ntmps5 (λg w d=>?_);refine gc (zci n 16 hn (by omega)) ?_;refine kY (.one (.cellA rfl rfl rfl rfl ty27 (kO ?_)));all_goals exact zR
def zgy(m:Mn)(v:Int):Fn prog 85 [mnA m,iv v] (iv (m.p v)):=by
 refine kR func85 ntmps85 (λg w d=>?_);refine gd ?_ ?_<;>intro Z
 ·refine gq ?_;all_goals(congr 1;unfold Mn.p;simp[*])
 refine gd ?_ ?_<;>intro V
 ·refine gq ?_;all_goals(congr 1;unfold Mn.p;simp[*])
 refine gd ?_ ?_<;>intro U
 ·refine gq ?_;all_goals(congr 1;unfold Mn.p;simp[*])
 refine gd ?_ ?_<;>intro T
 ·refine gq ?_;all_goals(congr 1;unfold Mn.p;simp[*])
 refine gq ?_;all_goals(congr 1;unfold Mn.p;simp[*])
def zfC(n q:Int)(hn:0<=n/\n<=4611686018427387904)(N:1<=q/\q<=4611686018427387904):Fn prog 19 [iv n,iv q] (tmA ⟨n/gI n q,q/gI n q⟩):=by
 refine kR func19 ntmps19 (λg w d=>?_);refine gq ?_;refine zen (ι:=Int×Int) (λ(p:Int×Int)=>[(0,iv n),(1,iv q),(4,.ptr 4 0 0 0),(5,iv p.1),(6,iv p.2)]) (λ(p:Int×Int)=>[(4,.box [iv 0,iv 0] 61)]) (λ(p:Int×Int)=>0<=p.1/\0<=p.2/\gI p.1 p.2=gI n q/\(0<p.1\/0<p.2)) (λ(p:Int×Int)=>p.2.toNat) (n,q) (λp hk=>?_) (hJ:=by exact⟨by dsimp only;omega,by dsimp only;omega,rfl,by dsimp only;omega⟩);obtain⟨a,b⟩:=p;obtain⟨k1,k2,k3,k4⟩:=hk;dsimp only at*
 refine gd ?_ ?_<;>intro V
 ·refine gq ?_;refine yu ((b,a%b)) (hJ:=by exact⟨by dsimp only;omega,by dsimp only;exact uS _ (by omega),by dsimp only;rw[zlw (by omega) (by omega)];exact k3,by dsimp only;omega⟩) (hm:=by dsimp only;have:=uD a (show 0<b by omega);omega)
 ·have Z:b=0:=by omega
  subst Z;rw[zlv k1]at k3;subst k3;have U:=zbY (n:=n) (d:=q) (by omega);refine gd ?_ ?_<;>intro T
  ·omega
  refine gq ?_;refine yW [20,21,22,23,24,25] [0,0,3,0,0,24,63,127] mo ?_;iterate 6 refine yb ?_
  refine yI ?_;refine gq ?_;refine kY (.one (.cellA rfl rfl rfl rfl ty61 (kO ?_)));all_goals rfl
end
section
attribute [local irreducible] Pur yy yz Ex X Fn Imp LeV LeB FnO It yH FnW FnOW FnP FnD
attribute [local irreducible] bsB nkB lwB dcB nmQ
def zgz(s:ByteArray)(hs:s.size<=1000000):Fn prog 42 [.str s] (.bool (nmQ (bsB s))):=by
 have Z:=zx4 s;refine kR func42 ntmps42 (λg w d=>?_);apply ye;refine yj ?_;apply yh;apply ye;refine ya ?_;refine ya (hs:=by exact zf1 Tryz.underlying9 rfl) ?_;refine ya ?_;refine kU 3 ?_;refine yo ?_;refine kS ?_;refine kS (hs:=λU=>zf1 Tryz.underlying9 rfl) ?_;refine kS ?_;iterate 2 refine yo ?_
 refine kS ?_;refine kS (hs:=λU=>zdX (s:=s) (i:=0) Tryz.underlying9 rfl rfl (by decide) (by omega)) ?_;refine kS ?_;iterate 2 refine yo ?_
 refine kS ?_;refine kS (hs:=λU=>zdX (s:=s) (i:=0) Tryz.underlying9 rfl rfl (by decide) (by omega)) ?_;refine kS ?_;refine gf ?_ ?_<;>intro H
 ·have T:nmQ (bsB s)=false:=zEu (by rw[Z,show(bsB s).getD 0 0=((bsB s).getD (0:Int).toNat 0)from rfl];unfold lwB;simp only[uW,w5];omega);refine gq ?_;all_goals rw[T]
 have N:lwB ((bsB s).getD 0 0)=true:=by show lwB ((bsB s).getD (0:Int).toNat 0)=true;unfold lwB;simp only[jA,w4];omega
 apply yk;apply yh;apply ye;refine ya ?_;refine ya (hs:=by exact zf1 Tryz.underlying9 rfl) ?_;refine yj ?_;apply kP;refine zW (λk=>[(0,.str s),(24,iv (s.size:Int)),(25,iv (k:Int))]) (λk=>[]) (λk=>k<=s.size/\((bsB s).take k).all nkB=true) s.size (λk hk=>?_) (hJ:=by exact⟨wK _,by simp⟩);obtain⟨G,V⟩:=hk;refine gd ?_ ?_<;>intro E
 ·apply yk;apply yh;apply kP;apply ye;iterate 2 refine ya ?_
  apply yE;iterate 2 refine ya ?_
  refine ya (hs:=by exact zdX (s:=s) (i:=(k:Int)) Tryz.underlying9 rfl rfl (by omega) (by omega)) ?_;refine ya ?_;apply yE;iterate 2 refine ya ?_
  refine kU 2 ?_;refine yo ?_;iterate 2 refine kS ?_
  iterate 2 refine yo ?_
  iterate 6 refine kS ?_
  iterate 2 refine yo ?_
  iterate 2 refine kS ?_
  refine gf ?_ ?_<;>intro xT
  ·have T:nmQ (bsB s)=false:=zx5 (k:=k) (by omega) (zAN (by rw[show(bsB s).getD k 0=((bsB s).getD (k:Int).toNat 0)by rw[wN]];omega));refine gq ?_;all_goals rw[T]
  have J:=zEv V (by omega) (zAO (by rw[show(bsB s).getD k 0=((bsB s).getD (k:Int).toNat 0)by rw[wN]];omega));refine gq ?_;refine yu (k+1) (hJ:=by exact⟨by omega,J⟩) (hI:=yg)
 ·obtain rfl:k=s.size:=by omega
  have T:nmQ (bsB s)=true:=by
   rw[←Z,jK]at V;rw[zx6 V,N,Z];simp;omega
  refine gq ?_;all_goals rw[T]
end
section
def zgA{n a b:Int}(h:a<=n/\n<=b):¬wnQ n a b=false:=by unfold wnQ;simp[h.1,h.2]
def ztv{k:Int}(h:1<=k/\k<=12):((gcE zsl).drop (0+k.toNat*12)).take 12=sfE (ufS k):=by
 have:k=1\/k=2\/k=3\/k=4\/k=5\/k=6\/k=7\/k=8\/k=9\/k=10\/k=11\/k=12:=by omega
 rcases this with h|h|h|h|h|h|h|h|h|h|h|h<;>subst h<;>rfl
def zxC{k:Int}(h:1<=k/\k<=12):(gcE clsL)[0+k.toNat*1]? =some (iv (clS k)):=by
 have:k=1\/k=2\/k=3\/k=4\/k=5\/k=6\/k=7\/k=8\/k=9\/k=10\/k=11\/k=12:=by omega
 rcases this with h|h|h|h|h|h|h|h|h|h|h|h<;>subst h<;>rfl
def zEq{s:Sg}{f:Sf}(h:s=ktV s f):(f.v=false->s.Value=0)/\(f.p=false->s.Place=0)/\(f.a=false->s.Acc=0)/\(f.c=false->s.Color=false)/\(f.s=false->s.Stem=0)/\(f.o=false->s.Oblique=false)/\(f.l=false->s.Last=false)/\(f.m=false->s.Mens=⟨0,0,0,0⟩)/\(f.k=false->s.Stroke=false)/\(f.n=false->s.N=0)/\(f.d=false->s.D=0)/\(f.f=false->s.CStep=0/\s.CLine=0):=by
 refine⟨λe=>?_,λe=>?_,λe=>?_,λe=>?_,λe=>?_,λe=>?_,λe=>?_,λe=>?_,λe=>?_,λe=>?_,λe=>?_,λe=>⟨?_,?_⟩⟩<;>(rw[h];simp[ktV,e])
attribute [local irreducible] Pur yy yz Ex X Fn Imp LeV LeB FnO It yH FnW FnOW FnP FnD
attribute [local irreducible] ufS clS wnQ ckM nmQ bsB
def zH(n a b:Int):Fn prog 269 [iv n,iv a,iv b] (.bool (wnQ n a b)):=by
 refine kR func269 ntmps269 (λg w d=>?_);apply ye;refine ya ?_;apply yE;iterate 3 refine ya ?_
 refine kU 3 ?_;refine yo ?_;iterate 3 refine kS ?_
 refine ge ?_;all_goals(first|rfl|(unfold wnQ;rfl))
def zmB(s:Sg)(f:Sf)(h:s=ktV s f):Fn prog 230 [sgA s,.agg (sfE f)] (sgA s):=by
 have v9:=zEq h;obtain⟨k0,k1,k2,k3,k4,k5,k6,k7,k8,k9,k10,k11⟩:=v9;refine kR func230 ntmps230 (λg w d=>?_);apply ye;iterate 2 refine zz ?_
 refine za ?_;apply yE;iterate 3 refine ya ?_
 refine za ?_;refine kV ?_;apply kW;refine zF ⟨[(2,.ptr 2 0 0 0),(3,.ptr 3 0 0 0),(4,.ptr 4 0 0 0),(5,.ptr 5 0 0 0)],[(2,.box (sgE s) 76),(3,.box (sfE f) 289),(4,.box [iv 0,iv 0,iv 0,iv 0,.bool false,iv 0,.bool false,.bool false,iv 0,iv 0,iv 0,iv 0,.bool false,iv 0,iv 0,iv 0,iv 0] 76),(5,.box [iv s.Kind,iv s.Value,iv 0,iv 0,.bool false,iv 0,.bool false,.bool false,iv 0,iv 0,iv 0,iv 0,.bool false,iv 0,iv 0,iv 0,iv 0] 76)]⟩ (λx2=>?_) ?_
 ·refine gd ?_ ?_<;>intro v8
  ·apply yf;(iterate 3 refine ya ?_);refine kV ?_;apply kW;exact kT yg x2
  ·have Z:([iv s.Kind,iv 0,iv 0,iv 0,.bool false,iv 0,.bool false,.bool false,iv 0,iv 0,iv 0,iv 0,.bool false,iv 0,iv 0,iv 0,iv 0]:List AV)=[iv s.Kind,iv s.Value,iv 0,iv 0,.bool false,iv 0,.bool false,.bool false,iv 0,iv 0,iv 0,iv 0,.bool false,iv 0,iv 0,iv 0,iv 0]:=by rw[k0 v8]
   apply yk;exact kT yg x2
 refine zF ⟨[(2,.ptr 2 0 0 0),(3,.ptr 3 0 0 0),(4,.ptr 4 0 0 0),(5,.ptr 5 0 0 0)],[(2,.box (sgE s) 76),(3,.box (sfE f) 289),(4,.box [iv 0,iv 0,iv 0,iv 0,.bool false,iv 0,.bool false,.bool false,iv 0,iv 0,iv 0,iv 0,.bool false,iv 0,iv 0,iv 0,iv 0] 76),(5,.box [iv s.Kind,iv s.Value,iv s.Place,iv 0,.bool false,iv 0,.bool false,.bool false,iv 0,iv 0,iv 0,iv 0,.bool false,iv 0,iv 0,iv 0,iv 0] 76)]⟩ (λx1=>?_) ?_
 ·refine gd ?_ ?_<;>intro v5
  ·apply yf;(iterate 3 refine ya ?_);refine kV ?_;apply kW;exact kT yg x1
  ·have Z:([iv s.Kind,iv s.Value,iv 0,iv 0,.bool false,iv 0,.bool false,.bool false,iv 0,iv 0,iv 0,iv 0,.bool false,iv 0,iv 0,iv 0,iv 0]:List AV)=[iv s.Kind,iv s.Value,iv s.Place,iv 0,.bool false,iv 0,.bool false,.bool false,iv 0,iv 0,iv 0,iv 0,.bool false,iv 0,iv 0,iv 0,iv 0]:=by rw[k1 v5]
   apply yk;exact kT yg x1
 refine zF ⟨[(2,.ptr 2 0 0 0),(3,.ptr 3 0 0 0),(4,.ptr 4 0 0 0),(5,.ptr 5 0 0 0)],[(2,.box (sgE s) 76),(3,.box (sfE f) 289),(4,.box [iv 0,iv 0,iv 0,iv 0,.bool false,iv 0,.bool false,.bool false,iv 0,iv 0,iv 0,iv 0,.bool false,iv 0,iv 0,iv 0,iv 0] 76),(5,.box [iv s.Kind,iv s.Value,iv s.Place,iv s.Acc,.bool false,iv 0,.bool false,.bool false,iv 0,iv 0,iv 0,iv 0,.bool false,iv 0,iv 0,iv 0,iv 0] 76)]⟩ (λx0=>?_) ?_
 ·refine gd ?_ ?_<;>intro v4
  ·apply yf;(iterate 3 refine ya ?_);refine kV ?_;apply kW;exact kT yg x0
  ·have Z:([iv s.Kind,iv s.Value,iv s.Place,iv 0,.bool false,iv 0,.bool false,.bool false,iv 0,iv 0,iv 0,iv 0,.bool false,iv 0,iv 0,iv 0,iv 0]:List AV)=[iv s.Kind,iv s.Value,iv s.Place,iv s.Acc,.bool false,iv 0,.bool false,.bool false,iv 0,iv 0,iv 0,iv 0,.bool false,iv 0,iv 0,iv 0,iv 0]:=by rw[k2 v4]
   apply yk;exact kT yg x0
 refine zF ⟨[(2,.ptr 2 0 0 0),(3,.ptr 3 0 0 0),(4,.ptr 4 0 0 0),(5,.ptr 5 0 0 0)],[(2,.box (sgE s) 76),(3,.box (sfE f) 289),(4,.box [iv 0,iv 0,iv 0,iv 0,.bool false,iv 0,.bool false,.bool false,iv 0,iv 0,iv 0,iv 0,.bool false,iv 0,iv 0,iv 0,iv 0] 76),(5,.box [iv s.Kind,iv s.Value,iv s.Place,iv s.Acc,.bool s.Color,iv 0,.bool false,.bool false,iv 0,iv 0,iv 0,iv 0,.bool false,iv 0,iv 0,iv 0,iv 0] 76)]⟩ (λV=>?_) ?_
 ·refine gd ?_ ?_<;>intro v3
  ·apply yf;(iterate 3 refine ya ?_);refine kV ?_;apply kW;exact kT yg V
  ·have Z:([iv s.Kind,iv s.Value,iv s.Place,iv s.Acc,.bool false,iv 0,.bool false,.bool false,iv 0,iv 0,iv 0,iv 0,.bool false,iv 0,iv 0,iv 0,iv 0]:List AV)=[iv s.Kind,iv s.Value,iv s.Place,iv s.Acc,.bool s.Color,iv 0,.bool false,.bool false,iv 0,iv 0,iv 0,iv 0,.bool false,iv 0,iv 0,iv 0,iv 0]:=by rw[k3 v3]
   apply yk;exact kT yg V
 refine zF ⟨[(2,.ptr 2 0 0 0),(3,.ptr 3 0 0 0),(4,.ptr 4 0 0 0),(5,.ptr 5 0 0 0)],[(2,.box (sgE s) 76),(3,.box (sfE f) 289),(4,.box [iv 0,iv 0,iv 0,iv 0,.bool false,iv 0,.bool false,.bool false,iv 0,iv 0,iv 0,iv 0,.bool false,iv 0,iv 0,iv 0,iv 0] 76),(5,.box [iv s.Kind,iv s.Value,iv s.Place,iv s.Acc,.bool s.Color,iv s.Stem,.bool false,.bool false,iv 0,iv 0,iv 0,iv 0,.bool false,iv 0,iv 0,iv 0,iv 0] 76)]⟩ (λU=>?_) ?_
 ·refine gd ?_ ?_<;>intro v2
  ·apply yf;(iterate 3 refine ya ?_);refine kV ?_;apply kW;exact kT yg U
  ·have Z:([iv s.Kind,iv s.Value,iv s.Place,iv s.Acc,.bool s.Color,iv 0,.bool false,.bool false,iv 0,iv 0,iv 0,iv 0,.bool false,iv 0,iv 0,iv 0,iv 0]:List AV)=[iv s.Kind,iv s.Value,iv s.Place,iv s.Acc,.bool s.Color,iv s.Stem,.bool false,.bool false,iv 0,iv 0,iv 0,iv 0,.bool false,iv 0,iv 0,iv 0,iv 0]:=by rw[k4 v2]
   apply yk;exact kT yg U
 refine zF ⟨[(2,.ptr 2 0 0 0),(3,.ptr 3 0 0 0),(4,.ptr 4 0 0 0),(5,.ptr 5 0 0 0)],[(2,.box (sgE s) 76),(3,.box (sfE f) 289),(4,.box [iv 0,iv 0,iv 0,iv 0,.bool false,iv 0,.bool false,.bool false,iv 0,iv 0,iv 0,iv 0,.bool false,iv 0,iv 0,iv 0,iv 0] 76),(5,.box [iv s.Kind,iv s.Value,iv s.Place,iv s.Acc,.bool s.Color,iv s.Stem,.bool s.Oblique,.bool false,iv 0,iv 0,iv 0,iv 0,.bool false,iv 0,iv 0,iv 0,iv 0] 76)]⟩ (λT=>?_) ?_
 ·refine gd ?_ ?_<;>intro v1
  ·apply yf;(iterate 3 refine ya ?_);refine kV ?_;apply kW;exact kT yg T
  ·have Z:([iv s.Kind,iv s.Value,iv s.Place,iv s.Acc,.bool s.Color,iv s.Stem,.bool false,.bool false,iv 0,iv 0,iv 0,iv 0,.bool false,iv 0,iv 0,iv 0,iv 0]:List AV)=[iv s.Kind,iv s.Value,iv s.Place,iv s.Acc,.bool s.Color,iv s.Stem,.bool s.Oblique,.bool false,iv 0,iv 0,iv 0,iv 0,.bool false,iv 0,iv 0,iv 0,iv 0]:=by rw[k5 v1]
   apply yk;exact kT yg T
 refine zF ⟨[(2,.ptr 2 0 0 0),(3,.ptr 3 0 0 0),(4,.ptr 4 0 0 0),(5,.ptr 5 0 0 0)],[(2,.box (sgE s) 76),(3,.box (sfE f) 289),(4,.box [iv 0,iv 0,iv 0,iv 0,.bool false,iv 0,.bool false,.bool false,iv 0,iv 0,iv 0,iv 0,.bool false,iv 0,iv 0,iv 0,iv 0] 76),(5,.box [iv s.Kind,iv s.Value,iv s.Place,iv s.Acc,.bool s.Color,iv s.Stem,.bool s.Oblique,.bool s.Last,iv 0,iv 0,iv 0,iv 0,.bool false,iv 0,iv 0,iv 0,iv 0] 76)]⟩ (λJ=>?_) ?_
 ·refine gd ?_ ?_<;>intro v0
  ·apply yf;(iterate 3 refine ya ?_);refine kV ?_;apply kW;exact kT yg J
  ·have Z:([iv s.Kind,iv s.Value,iv s.Place,iv s.Acc,.bool s.Color,iv s.Stem,.bool s.Oblique,.bool false,iv 0,iv 0,iv 0,iv 0,.bool false,iv 0,iv 0,iv 0,iv 0]:List AV)=[iv s.Kind,iv s.Value,iv s.Place,iv s.Acc,.bool s.Color,iv s.Stem,.bool s.Oblique,.bool s.Last,iv 0,iv 0,iv 0,iv 0,.bool false,iv 0,iv 0,iv 0,iv 0]:=by rw[k6 v0]
   apply yk;exact kT yg J
 refine zF ⟨[(2,.ptr 2 0 0 0),(3,.ptr 3 0 0 0),(4,.ptr 4 0 0 0),(5,.ptr 5 0 0 0)],[(2,.box (sgE s) 76),(3,.box (sfE f) 289),(4,.box [iv 0,iv 0,iv 0,iv 0,.bool false,iv 0,.bool false,.bool false,iv 0,iv 0,iv 0,iv 0,.bool false,iv 0,iv 0,iv 0,iv 0] 76),(5,.box [iv s.Kind,iv s.Value,iv s.Place,iv s.Acc,.bool s.Color,iv s.Stem,.bool s.Oblique,.bool s.Last,iv s.Mens.Max,iv s.Mens.Mod,iv s.Mens.Tem,iv s.Mens.Pro,.bool false,iv 0,iv 0,iv 0,iv 0] 76)]⟩ (λH=>?_) ?_
 ·refine gd ?_ ?_<;>intro u4
  ·apply yf;(iterate 3 refine ya ?_);refine kV ?_;apply kW;exact kT yg H
  ·have Z:([iv s.Kind,iv s.Value,iv s.Place,iv s.Acc,.bool s.Color,iv s.Stem,.bool s.Oblique,.bool s.Last,iv 0,iv 0,iv 0,iv 0,.bool false,iv 0,iv 0,iv 0,iv 0]:List AV)=[iv s.Kind,iv s.Value,iv s.Place,iv s.Acc,.bool s.Color,iv s.Stem,.bool s.Oblique,.bool s.Last,iv s.Mens.Max,iv s.Mens.Mod,iv s.Mens.Tem,iv s.Mens.Pro,.bool false,iv 0,iv 0,iv 0,iv 0]:=by rw[k7 u4]
   apply yk;exact kT yg H
 refine zF ⟨[(2,.ptr 2 0 0 0),(3,.ptr 3 0 0 0),(4,.ptr 4 0 0 0),(5,.ptr 5 0 0 0)],[(2,.box (sgE s) 76),(3,.box (sfE f) 289),(4,.box [iv 0,iv 0,iv 0,iv 0,.bool false,iv 0,.bool false,.bool false,iv 0,iv 0,iv 0,iv 0,.bool false,iv 0,iv 0,iv 0,iv 0] 76),(5,.box [iv s.Kind,iv s.Value,iv s.Place,iv s.Acc,.bool s.Color,iv s.Stem,.bool s.Oblique,.bool s.Last,iv s.Mens.Max,iv s.Mens.Mod,iv s.Mens.Tem,iv s.Mens.Pro,.bool s.Stroke,iv 0,iv 0,iv 0,iv 0] 76)]⟩ (λG=>?_) ?_
 ·refine gd ?_ ?_<;>intro u3
  ·apply yf;(iterate 3 refine ya ?_);refine kV ?_;apply kW;exact kT yg G
  ·have Z:([iv s.Kind,iv s.Value,iv s.Place,iv s.Acc,.bool s.Color,iv s.Stem,.bool s.Oblique,.bool s.Last,iv s.Mens.Max,iv s.Mens.Mod,iv s.Mens.Tem,iv s.Mens.Pro,.bool false,iv 0,iv 0,iv 0,iv 0]:List AV)=[iv s.Kind,iv s.Value,iv s.Place,iv s.Acc,.bool s.Color,iv s.Stem,.bool s.Oblique,.bool s.Last,iv s.Mens.Max,iv s.Mens.Mod,iv s.Mens.Tem,iv s.Mens.Pro,.bool s.Stroke,iv 0,iv 0,iv 0,iv 0]:=by rw[k8 u3]
   apply yk;exact kT yg G
 refine zF ⟨[(2,.ptr 2 0 0 0),(3,.ptr 3 0 0 0),(4,.ptr 4 0 0 0),(5,.ptr 5 0 0 0)],[(2,.box (sgE s) 76),(3,.box (sfE f) 289),(4,.box [iv 0,iv 0,iv 0,iv 0,.bool false,iv 0,.bool false,.bool false,iv 0,iv 0,iv 0,iv 0,.bool false,iv 0,iv 0,iv 0,iv 0] 76),(5,.box [iv s.Kind,iv s.Value,iv s.Place,iv s.Acc,.bool s.Color,iv s.Stem,.bool s.Oblique,.bool s.Last,iv s.Mens.Max,iv s.Mens.Mod,iv s.Mens.Tem,iv s.Mens.Pro,.bool s.Stroke,iv s.N,iv 0,iv 0,iv 0] 76)]⟩ (λE=>?_) ?_
 ·refine gd ?_ ?_<;>intro w9
  ·apply yf;(iterate 3 refine ya ?_);refine kV ?_;apply kW;exact kT yg E
  ·have Z:([iv s.Kind,iv s.Value,iv s.Place,iv s.Acc,.bool s.Color,iv s.Stem,.bool s.Oblique,.bool s.Last,iv s.Mens.Max,iv s.Mens.Mod,iv s.Mens.Tem,iv s.Mens.Pro,.bool s.Stroke,iv 0,iv 0,iv 0,iv 0]:List AV)=[iv s.Kind,iv s.Value,iv s.Place,iv s.Acc,.bool s.Color,iv s.Stem,.bool s.Oblique,.bool s.Last,iv s.Mens.Max,iv s.Mens.Mod,iv s.Mens.Tem,iv s.Mens.Pro,.bool s.Stroke,iv s.N,iv 0,iv 0,iv 0]:=by rw[k9 w9]
   apply yk;exact kT yg E
 refine zF ⟨[(2,.ptr 2 0 0 0),(3,.ptr 3 0 0 0),(4,.ptr 4 0 0 0),(5,.ptr 5 0 0 0)],[(2,.box (sgE s) 76),(3,.box (sfE f) 289),(4,.box [iv 0,iv 0,iv 0,iv 0,.bool false,iv 0,.bool false,.bool false,iv 0,iv 0,iv 0,iv 0,.bool false,iv 0,iv 0,iv 0,iv 0] 76),(5,.box [iv s.Kind,iv s.Value,iv s.Place,iv s.Acc,.bool s.Color,iv s.Stem,.bool s.Oblique,.bool s.Last,iv s.Mens.Max,iv s.Mens.Mod,iv s.Mens.Tem,iv s.Mens.Pro,.bool s.Stroke,iv s.N,iv s.D,iv 0,iv 0] 76)]⟩ (λxT=>?_) ?_
 ·refine gd ?_ ?_<;>intro w2
  ·apply yf;(iterate 3 refine ya ?_);refine kV ?_;apply kW;exact kT yg xT
  ·have Z:([iv s.Kind,iv s.Value,iv s.Place,iv s.Acc,.bool s.Color,iv s.Stem,.bool s.Oblique,.bool s.Last,iv s.Mens.Max,iv s.Mens.Mod,iv s.Mens.Tem,iv s.Mens.Pro,.bool s.Stroke,iv s.N,iv 0,iv 0,iv 0]:List AV)=[iv s.Kind,iv s.Value,iv s.Place,iv s.Acc,.bool s.Color,iv s.Stem,.bool s.Oblique,.bool s.Last,iv s.Mens.Max,iv s.Mens.Mod,iv s.Mens.Tem,iv s.Mens.Pro,.bool s.Stroke,iv s.N,iv s.D,iv 0,iv 0]:=by rw[k10 w2]
   apply yk;exact kT yg xT
 refine zF ⟨[(2,.ptr 2 0 0 0),(3,.ptr 3 0 0 0),(4,.ptr 4 0 0 0),(5,.ptr 5 0 0 0)],[(2,.box (sgE s) 76),(3,.box (sfE f) 289),(4,.box [iv 0,iv 0,iv 0,iv 0,.bool false,iv 0,.bool false,.bool false,iv 0,iv 0,iv 0,iv 0,.bool false,iv 0,iv 0,iv 0,iv 0] 76),(5,.box [iv s.Kind,iv s.Value,iv s.Place,iv s.Acc,.bool s.Color,iv s.Stem,.bool s.Oblique,.bool s.Last,iv s.Mens.Max,iv s.Mens.Mod,iv s.Mens.Tem,iv s.Mens.Pro,.bool s.Stroke,iv s.N,iv s.D,iv s.CStep,iv s.CLine] 76)]⟩ (λx4=>?_) ?_
 ·refine gd ?_ ?_<;>intro x3
  ·apply yf;(iterate 3 refine ya ?_);refine kV ?_;apply kW;exact kT yg x4
  ·have Z:([iv s.Kind,iv s.Value,iv s.Place,iv s.Acc,.bool s.Color,iv s.Stem,.bool s.Oblique,.bool s.Last,iv s.Mens.Max,iv s.Mens.Mod,iv s.Mens.Tem,iv s.Mens.Pro,.bool s.Stroke,iv s.N,iv s.D,iv 0,iv 0]:List AV)=[iv s.Kind,iv s.Value,iv s.Place,iv s.Acc,.bool s.Color,iv s.Stem,.bool s.Oblique,.bool s.Last,iv s.Mens.Max,iv s.Mens.Mod,iv s.Mens.Tem,iv s.Mens.Pro,.bool s.Stroke,iv s.N,iv s.D,iv s.CStep,iv s.CLine]:=by rw[(k11 x3).1,(k11 x3).2]
   apply yk;exact kT yg x4
 refine gq ?_;refine kY (.one (.cellA rfl rfl rfl rfl ty76 (kO ?_)));all_goals exact zR
def zjU(s:Sg)(f:Sf)(h:RgK s f):Fn prog 231 [sgA s,.agg (sfE f)] (.bool true):=by
 refine kR func231 ntmps231 (λg w d=>?_);apply ye;iterate 2 refine zz ?_
 refine yj ?_;apply yh;apply kP;apply ye;iterate 2 refine ya ?_
 refine kU 2 ?_;refine gq ?_;refine bJ (zH _ _ _) ?_;refine kS ?_;refine gf ?_ ?_<;>intro V
 ·exact absurd V.2 (zgA (h.v V.1))
 apply ye;iterate 2 refine ya ?_
 refine kU 2 ?_;refine gq ?_;refine bJ (zH _ _ _) ?_;refine kS ?_;refine gf ?_ ?_<;>intro U
 ·exact absurd U.2 (zgA (h.p U.1))
 apply ye;iterate 2 refine ya ?_
 refine kU 2 ?_;refine gq ?_;refine bJ (zH _ _ _) ?_;refine kS ?_;refine gf ?_ ?_<;>intro T
 ·exact absurd T.2 (zgA (h.a T.1))
 apply ye;iterate 2 refine ya ?_
 refine kU 2 ?_;refine gq ?_;refine bJ (zH _ _ _) ?_;refine kS ?_;refine gf ?_ ?_<;>intro N
 ·exact absurd N.2 (zgA (h.s N.1))
 apply ye;iterate 2 refine ya ?_
 refine kU 2 ?_;refine gq ?_;refine bJ (zH _ _ _) ?_;refine gq ?_;refine bJ (zH _ _ _) ?_;iterate 2 refine kS ?_
 refine gf ?_ ?_<;>intro Z
 ·exact Z.2.elim (λq=>absurd q (zgA (h.d Z.1).1)) (λq=>absurd q (zgA (h.d Z.1).2))
 apply ye;iterate 2 refine ya ?_
 refine kU 2 ?_;refine gq ?_;refine bJ (zH _ _ _) ?_;iterate 2 refine kS ?_
 refine gf ?_ ?_<;>intro G
 ·exact absurd G (by have:=h.c;have:=λq:f.f=true=>zgA (h.c q).2;grind)
 apply ye;iterate 3 refine ya ?_
 refine kU 3 ?_;refine gq ?_;refine bJ (zH _ _ _) ?_;refine kS ?_;refine gf ?_ ?_<;>intro J
 ·exact absurd J.2 (zgA (h.y J.1))
 apply ye;iterate 3 refine ya ?_
 refine kU 3 ?_;refine gq ?_;refine bJ (zH _ _ _) ?_;refine kS ?_;refine gf ?_ ?_<;>intro H
 ·exact absurd H.2 (zgA (h.r H.1))
 refine gq ?_;all_goals exact zR
def znx(s:Sg)(h:SgK s):Fn prog 169 [sgA s] (iv 0):=by
 have h1:=h.k;refine kR func169 ntmps169 (λg w d=>?_);apply ye;refine zz ?_;refine yj ?_;apply yh;apply ye;iterate 3 refine ya ?_
 refine kU 3 ?_;refine yo ?_;iterate 3 refine kS ?_
 refine gf ?_ ?_<;>intro V
 ·exact absurd V (by omega)
 apply yk;apply ye;iterate 2 refine ya ?_
 refine zo (zhF rfl rfl ArK.h zw5 (by omega) (by omega)) rfl ?_;refine zo (zec (ys:=sfE (ufS s.Kind)) rfl (ztv h1) rfl rfl TyK.h) rfl ?_;refine gq ?_;refine yW [16,17,18,19,20,21] [0,0,0,6,15,31] mo ?_;iterate 3 refine yb ?_
 refine yO (zmB s (ufS s.Kind) h.f) ?_;iterate 2 refine yb ?_
 refine yI ?_;refine gd ?_ ?_<;>intro U
 ·exact absurd rfl U
 apply ye;iterate 2 refine ya ?_
 refine kU 2 ?_;refine gq ?_;refine bJ (zaw s.Mens) ?_;refine kS ?_;refine gf ?_ ?_<;>intro Z
 ·exact absurd (h.m Z.1) Z.2
 refine gc (zjU s (ufS s.Kind) h.g) ?_;refine gd ?_ ?_<;>intro T
 ·cases T
 apply ye;iterate 2 refine ya ?_
 refine kU 2 ?_;refine yo ?_;iterate 2 refine kS ?_
 refine gf ?_ ?_<;>intro N
 ·exact absurd N h.o
 refine gq ?_;all_goals exact zR
def zlk(k:Int)(h:1<=k/\k<=12):Fn prog 173 [iv k] (.tup [iv (clS k),iv 0]):=by
 refine kR func173 ntmps173 (λg w d=>?_);apply ye;refine yQ ?_;apply yh;apply ye;iterate 2 refine ya ?_
 refine kU 2 ?_;refine yo ?_;iterate 2 refine kS ?_
 refine gf ?_ ?_<;>intro Z
 ·exact absurd Z (by omega)
 apply yk;apply ye;refine ya ?_;refine zo (zhF rfl rfl ArK.h ty3 (by omega) (by omega)) rfl ?_;refine zo (zaU rfl (zxC h) rfl ty3) rfl ?_;refine gq ?_;refine yl ?_ ?_;all_goals exact zR
def zgB(s:ByteArray)(l:List Sg)(hs:s.size<=1000000)(hn:nmQ (bsB s)=true)(hl:l.length<=400)(V:∀x∈l,SgK x/\¬x.Kind=4):Fn prog 120 [.agg [.str s,sgsA l]] (.tup [iv 0,iv 0]):=by
 refine kR func120 ntmps120 (λg w d=>?_);refine gc (zgz s hs) ?_;refine gd ?_ ?_<;>intro U
 ·exact absurd U (by simp[hn])
 refine gd ?_ ?_<;>intro T
 ·exact absurd T (by omega)
 apply yk;apply ye;refine yj ?_;apply yh;refine X.label ?_;apply yh;apply ye;refine ya ?_;refine yC ?_;apply kP;refine zm (λk=>[(1,.ptr 1 0 0 0),(4,.bool false),(18,iv (l.length:Int)),(19,iv (k:Int))]) (λk=>[(1,.box [.str s,sgsA l] 46)]) l.length (λk hk=>?_);refine gd ?_ ?_<;>intro G
 ·have N:=@getX _ l k (by omega);obtain⟨x,hx,E⟩:=N;have Z:=V x (j8 hx);refine gc (znx x Z.1) ?_;refine gd ?_ ?_<;>intro J
  ·exact absurd rfl J
  refine gd ?_ ?_<;>intro H
  ·refine gq ?_;refine yu (k+1) (hI:=yg)
  exact absurd H Z.2
 ·refine gq ?_;refine yl ?_ ?_;all_goals exact zR
end
end Go.Rse
namespace Go.Rse
open Go Go.RowKit Go.Proofs.Tryz
section
variable{P:Program}{C:Ctx}{st:St}{ty:TypeId}{Q:Exit->St->Prop}
def zmC{α:Type}{enc:α->List AV}{l:List α}{g:Gh}{a:Act}{w:World}{v:Value}{s:Nat}{ρ:Nat->Value}(hr:Rel C st g a w)(hv:RV g.I ρ (.sl enc l) v)(hs:0<s)(he:∀z,(enc z).length=s):
 ∃A c news,v=.slice A l.length c/\l.length<=c/\news.length=l.length*s/\RVL g.I noNames (l.flatMap enc) news/\(l≠[]->∃b o,A=some ⟨b,o,none⟩/\∀j u,news[j]? =some u->w.cell? ⟨b,o+j,none⟩=some u):=by
 obtain⟨A,b,o,s',c,vs,e,hA,U,_,h1,h2,h3⟩:=zcZ hv
 have T:l≠[]->s'=s:=λV=>by
  cases l with
  |nil=>grind
  |cons p r=>exact(h1 0 p (by simp)).symm.trans (he p)
 have N:∀(i:Nat)x,l[i]? =some x->(enc x).length=s:=λi x _=>he x
 have Z:∀j u,((List.range (l.length*s)).map λq=>vs (q/s) (q%s))[j]? =some u->j<l.length*s/\u=vs (j/s) (j%s):=λj u E=>by
  grind
 refine⟨A,c,(List.range (l.length*s)).map λq=>vs (q/s) (q%s),e,U,by simp,⟨by simp[zJ l N],λj c v hc hv=>?_⟩,λV=>⟨b,o,hA V,λj u E=>?_⟩⟩
 ·obtain⟨J,rfl⟩:=Z j v hv;have H:j/s<l.length:=v7 (by rw[u9];exact J);have G:j/s*s+j%s=j:=by rw[u9];exact vH j s
  have xT:j%s<s:=xE _ hs;have hp:=lgg H
  grind[zdI]
 ·obtain⟨J,rfl⟩:=Z j u E;have H:j/s<l.length:=v7 (by rw[u9];exact J);have G:j/s*s+j%s=j:=by rw[u9];exact vH j s
  have e2:=T V;subst e2;have:=h2 (j/s') _ (j%s') (lgg H) (xE _ hs);have h4:=(hr.sat.im _ _ _ this).1
  grind
def zAn{c:Code}{α:Type}{enc:α->List AV}{l:List α}(t kh:Nat)(h:∀A n,l.length<=n->X P C c ⟨(t,.val (.slice A l.length n))::st.t,(kh,.hold [.slice A l.length n] [.sl enc l])::st.h⟩ Q)
 (hx:lk st.t t=some (.sl enc l):=by exact rfl):X P C c st Q:=λg a w hr=>by
 have hv:=hr.tmps t _ hx;obtain⟨A,b,o,s,n,vs,e,J,U,-⟩:=zcZ hv
 have h1:=hr.withBlk (k:=kh) (B:=.hold [.slice A l.length n] [.sl enc l]) ⟨rfl,λj c' v T N=>by
  grind⟩
 refine h A n U g a w ⟨h1.size,h1.defers,λt' x Z=>?_,h1.sat,h1.ext⟩;simp only[yq]at Z;cases V:t.beq t'<;>simp[V]at Z
 ·exact h1.tmps t' x Z
 ·have:t=t':=by simpa using V
  subst this;subst Z;rw[e];exact .val _
def zkl{A:Option Addr}{n c:Nat}{x:Operand}{t E:TypeId}(hx:ev st x=some (.val (.slice A n c)))(h:slOk P t E=true):
 Pur P C (.call {callee:=.builtin .len,args:= #[x],argTypes:= #[t]}) ty st (.int .i64 n):=λg a w dst pos af gd hr=>
 ⟨_,zfi h (zbg (yA hr hx)),.int _ _⟩
def zp2(a:Addr):a.add 0=a:=by rfl
def zxD{A:Option Addr}{n c s:Nat}{x y z:Operand}{t E:TypeId}{ag:Bool}(hx:ev st x=some (.val (.slice A n c)))(V:ev st y=some (.int .i64 n))(U:ev st z=some (.int .i64 n))(ht:slOk P t E=true)(hE:tyOk P E ag s=true)(Z:n<=c):
 Pur P C (.slice t x none (some y) (some z)) ty st (.val (.slice A n n)):=λg a w dst pos af gd hr=>by
 have ex:=zbg (yA hr hx);have ey:=y5 (yA hr V);have ez:=y5 (yA hr U)
 have T:(Instr.sliceBounds true n c none (some (.int .i64 (n:Int))) (some (.int .i64 (n:Int)))).run P w=.ok (0,n,n) w:=by
  simp[Instr.sliceBounds,Instr.sliceBound,asIntOf,Z]
 refine⟨_,?_,.val _⟩
 have hm:(if n=0 then A else Option.map (λx=>x.add 0) A)=A:=by
  simp[zp2]
 simp[execOp,Instr.sliceAt,Instr.slice,run_underlying (zh ht),ex,ey,ez,T,yZ hE,hm]
def zjV{α:Type}{enc:α->List AV}{l l2:List α}{A:Option Addr}{c k kh:Nat}{t E:TypeId}{z:Value}{s bytes:Nat}{x y:Operand}
 (hx:ev st x=some (.val (.slice A l.length l.length)))(hh:lk st.h kh=some (.hold [.slice A l.length c] [.sl enc l]))(hy:ev st y=some (.sl enc l2))(ht:slOk P t E=true)(hi:zK P E z s bytes)(hs:0<s)(x0:bytes<=1024)(he:∀z,(enc z).length=s)
 (h2:0<l2.length)(J:l.length+l2.length<=4000000000):yy P C (.call {callee:=.builtin .append,args:= #[x,y],argTypes:= #[t,t]}) ty st (.own k) (some (k,.row enc (l++l2) E s)):=
 zai λg a w dst pos af gd hr=>by
  obtain⟨i,H,G,U,xT,w9⟩:=hi;have T:=zh ht;have ex:=zbg (yA hr hx);obtain⟨A2,c2,news,ey,u4,N,u1,x4⟩:=zmC (s:=s) hr (yA hr hy) hs he;obtain⟨_,hq⟩:=hr.sat.blk kh _ hh;obtain⟨A1,c1,olds,e1,u3,V,k9,hold⟩:=zmC (s:=s) hr (hq 0 _ _ rfl rfl) hs he;injection e1 with e1 _ _;subst e1;obtain⟨b2,o2,w2,k8⟩:=x4 (uH.1 h2);subst w2
  have x3:(l.length+l2.length)*bytes<=140737488355328:=by
   have:(l.length+l2.length)*bytes<=4000000000*1024:=xN J x0;omega
  have x2:∀(i:Nat)x,(l++l2)[i]? =some x->(enc x).length=s:=λi x _=>he x
  have v9:RVL g.I noNames ((l++l2).flatMap enc) (olds++news):=by grind[RVL]
  have v8:(olds++news).length=(l.length+l2.length)*s:=by grind
  have main:∃cap,(Builtin.append_ #[t,t] ty #[.slice A l.length l.length,.slice (some ⟨b2,o2,none⟩) l2.length c2]).run P w=.ok (.slice (some ⟨w.heap.size,0,none⟩) (l.length+l2.length) cap) (w.drew.alloc (.cells (olds.toArray++news.toArray++Builtin.zeroCells z.cells (cap-(l.length+l2.length))) E))/\l.length+l2.length<=cap/\cap<=maxLen:=by
   have v5:l.length+l2.length<=maxLen:=by simp only[maxLen];omega
   have k7:=grownCap_ge w (l.length+l2.length) l.length E;have x1:=grownCap_le_maxLen w (l.length+l2.length) l.length E v5;have Z:∀j u,news[j]? =some u->w.cell? ((⟨b2,o2,none⟩:Addr).add j)=some u:=λj u T=>by grind[zP]
   cases hA:A with
   |none=>
    have v4:l=[]:=by
     cases l with
     |nil=>rfl
     |cons p r=>obtain⟨b,o,h,_⟩:=hold (by simp);rw[hA]at h;cases h
    subst v4;have ho:olds=[]:=jR (by simpa using V);subst ho;have v3:=run_append_nil (P:=P) w t ty E i z T H G ⟨b2,o2,none⟩ l2.length c2 news (by rw[U];exact N) Z h2 (by omega) (by rw[xT];simp only[wQ,vU]at x3;omega)
    grind
   |some ad=>
    have v2:∀j u,olds[j]? =some u->w.cell? (ad.add j)=some u:=λj u T=>by
     have v1:l≠[]:=λe=>by
      subst e;have:olds=[]:=jR (by simpa using V);rw[this]at T;simp at T
     obtain⟨b,o,h,hc⟩:=hold v1;rw[hA]at h;injection h with h;subst h;rw[zP];exact hc j u T
    have v3:=run_append_grow (P:=P) w t ty E i z T H G ad l.length l.length olds (by rw[U];exact V) v2 ⟨b2,o2,none⟩ l2.length c2 news (by rw[U];exact N) Z (by omega) (by omega) (growslice_fits (by omega) (by rw[xT];exact x3))
    grind
  obtain⟨cap,u2,v0,x1⟩:=main;have hg:Grow w (w.drew.alloc (.cells (olds.toArray++news.toArray++Builtin.zeroCells z.cells (cap-(l.length+l2.length))) E)):=(Grow.drew w).trans (Grow.alloc _ _);refine⟨.slice (some ⟨w.heap.size,0,none⟩) (l.length+l2.length) cap,_,g.nw C.d w.heap.size k (.slice (some ⟨w.heap.size,0,none⟩) (l.length+l2.length) cap),?_,Add.nw hg C.d k _,.own k _ _ _ (by simp[Gh.nw]),ImOB.nw ⟨hr.sat.im,hr.sat.ob⟩ hg (by simp) C.d k _,λk' B hB=>?_⟩
  ·simp_all[execOp,resolve,invoke,builtin]
  ·injection hB with hB;injection hB with e1 e2;subst e1;subst e2;refine⟨olds++news,?_,x2,zbw x2 v9,λb hb=>?_⟩
   ·simp only[Gh.nw,if_true,jC];refine⟨v8,.inr ⟨w.heap.size,cap,_,rfl,wK _,heap_alloc_new w.drew _,v0,x1,?_,?_⟩⟩
    ·simp only[Array.size_append,List.size_toArray,size_zeroCells,w9,V,N,←Nat.add_mul];congr 1;omega
    grind
   ·simp only[Gh.nw,if_true,y9]at hb;injection hb with hb;subst hb;exact⟨by simp[Gh.nw],.inl hr.ext.size⟩
end
end Go.Rse
