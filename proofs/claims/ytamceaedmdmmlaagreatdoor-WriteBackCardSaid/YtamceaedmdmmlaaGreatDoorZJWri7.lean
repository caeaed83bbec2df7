/-
  Walks.
-/
import Derived.Test.YtamceaedmdmmlaaGreatDoorZJWri8
set_option linter.all false
set_option maxHeartbeats 8000000
namespace Go.Rse
open Go Go.Proofs Go.Proofs.Tryz
section
def mnF(l:List Int)(k:Nat):Int:=minL ((l.take k).drop 1) (l.getD 0 0)
def zkG(x:Int):∀(l:List Int)(a:Int),minL (l++[x]) a=min (minL l a) x
 |[],a=>by
  show(if x<a then x else a)=min a x;rw[Int.min_def];by_cases h:x<a
  ·rw[j6 h,j7 (by omega)]
  ·rw[j7 h,j6 (by omega)]
 |y::r,a=>by show minL (r++[x]) _=min (minL r _) x;rw[zkG x r]
def zBF(l:List Int):l.getD 0 0=mnF l 1:=by
 unfold mnF;cases l<;>simp[minL]
def zBG{l:List Int}{k:Nat}{x:Int}(hk:1<=k)(h:l[k]? =some x):min (mnF l k) x=mnF l (k+1):=by
 unfold mnF;rw[jG,h]
 have:((l.take k)++(some x).toList).drop 1=(l.take k).drop 1++[x]:=by
  rw[vT (by have:=(j5.1 h).1;rw[jO];omega)];rfl
 rw[this,zkG]
def zyN{m:Mn}(h:0<(perfL m).length):mnF (perfL m) (perfL m).length=meV m:=by
 unfold mnF meV;rw[jK];cases Z:perfL m with
 |nil=>rw[Z]at h;simp at h
 |cons x r=>simp
def zyO{m:Mn}(h:(perfL m).length=0):meV m=3:=by
 unfold meV;rw[jR h]
def zyP{m:Mn}(h:ckM m=0):1<=meV m/\meV m<=4:=by
 have:=zab zuq h (v:=1) (by decide) (by decide);unfold meQ at this;simpa using this
attribute [local irreducible] Pur yy yz Ex X Fn Imp LeV LeB FnO It yH FnW FnOW FnP FnD
attribute [local irreducible] wcE ckM perfL meV yw mnF addV addE whE whR whQ bkE bkV blE blV suK
def zeK(l:List Int)(hl:l.length<=4000000000)(h0:0<l.length):Fn prog 115 [yc l] (iv (mnF l l.length)):=by
 have V:=zBF l;obtain⟨x0,Z⟩:∃x,l[0]? =some x:=⟨_,lgg h0⟩;have N:l[(0:Int).toNat]? =some x0:=Z;have J:x0=mnF l 1:=by rw[←V,jD,Z];rfl
 refine kR func115 ntmps115 (λg w d=>?_);refine gd ?_ ?_<;>intro H
 ·omega
 refine gq ?_;refine zen (ι:=Nat) (λ(k:Nat)=>[(0,yc l),(3,iv (mnF l k)),(4,iv (k:Int))]) (λ(k:Nat)=>[]) (λ(k:Nat)=>1<=k/\k<=l.length) (λ(k:Nat)=>l.length-k) 1 (λk hk=>?_) (hJ:=by exact⟨by omega,by omega⟩) (h0:=by exact yg);obtain⟨U,G⟩:=hk;refine gd ?_ ?_<;>intro E
 ·have T:=@getX _ l k (by omega);obtain⟨x,hx,xT⟩:=T;have x4:=zBG U hx;apply yk;apply yh;apply kP;apply yf;iterate 5 refine ya ?_
  refine zo (zCj rfl rfl) rfl ?_;refine gq ?_;refine yu (k+1) (hJ:=by exact⟨by omega,by omega⟩) (hI:=yg)
 ·obtain rfl:k=l.length:=by omega
  refine gq ?_;all_goals exact zR
def zh2(m:Mn)(hm:ckM m=0):Fn prog 68 [mnA m] (tmA (meU m)):=by
 have V:=zyP hm;have N:=zif m;have U:=zdl m;rw[j6 hm,hm]at U;refine kR func68 ntmps68 (λg w d=>?_);refine gc U ?_;refine gd ?_ ?_<;>intro J
 ·have Z:=zeK (perfL m) (by omega) (by omega);rw[zyN (m:=m) (by omega)]at Z;refine gc Z ?_;refine gc (zaZ hm V.1 (by omega)) ?_;refine kY (.one (.cellA rfl rfl rfl rfl ty61 (kO ?_)));all_goals(first|rfl|(unfold meU;rw[T];rfl))
 ·have T:=zyO (m:=m) (by omega);refine gc (zaZ hm (v:=3) (by decide) (by decide)) ?_;refine kY (.one (.cellA rfl rfl rfl rfl ty61 (kO ?_)));all_goals(first|rfl|(unfold meU;rw[T];rfl))
def zag(l:List Bt)(hl:l.length<=4000000000):Fn prog 44 [btsA l] (btsA l):=by
 refine kR func44 ntmps44 (λg w d=>?_);apply ye;refine yj ?_;apply yh;apply ye;refine ya ?_;refine zrD (λbn U=>?_) Tryz.underlying29;refine gd ?_ ?_<;>intro Z
 ·have V:l=[]:=by
   cases l with
   |nil=>rfl
   |cons x r=>rw[U (by simp)]at Z;cases Z
  apply ye;refine yj ?_;refine kQ ?_;refine kM (yd (ts:=[(2,btsA [])]) (hs:=[])) ?_;refine gq ?_;all_goals(first|exact j9 (λz=>btsA z) V.symm|rfl)
 refine gq ?_;refine yD btE [] ?_;refine ya ?_;refine kV ?_;refine yj ?_;refine kQ ?_;refine kM (kL (k:=5) rfl) ?_;refine gq ?_;all_goals(first|exact j9 (λz=>btsA z) V.symm|rfl)
def zeL(m:Mn)(l:List Bt)(hl:l.length<=1000000):Fn prog 43 [mnA m,btsA l] (.tup [blsA (blV m l),iv (blE m l)]):=by
 refine kR func43 ntmps43 (λg w d=>?_);refine gc (zb8 m l (by omega)) ?_;refine gd ?_ ?_<;>intro H
 ·have G:=zBE H;obtain⟨hE,N⟩:=G;apply ye;refine yC ?_;refine kQ ?_;refine kM (yd (ts:=[(4,blsA []),(5,iv (wcE m l))]) (hs:=[])) ?_;refine yl ?_ ?_;all_goals(first|exact zE N|exact zE hE)
 have h0:wcE m l=0:=by omega
 have hm:ckM m=0:=by
  apply jV;intro h;rw[zr5 h]at h0;exact h h0
 refine gq ?_;refine yR (zh2 m hm) ?_;refine za ?_;refine kV ?_;apply yE;refine yj ?_;apply yh;refine X.label ?_;apply yh;apply kP;refine kT (yG btsE 29 1 8 30 rfl rfl) ?_;refine zen (ι:=List Bt×List (List Bt)) (λ(q:List Bt×List (List Bt))=>[(1,btsA q.1),(7,.ptr 7 0 0 0),(8,.own 30)]) (λ(q:List Bt×List (List Bt))=>[(7,.box (tmE (meU m)) 61),(30,.row btsE q.2 29 1)]) (λ(q:List Bt×List (List Bt))=>BlO (meU m) l q.1 q.2) (λ(q:List Bt×List (List Bt))=>q.1.length) (l,[]) (λq hk=>?_) (hJ:=by exact zBD _ _) (h0:=by exact yg);have J:=hk;have x1:=J.n;refine gd ?_ ?_<;>intro x0
 ·have Z:0<q.1.length:=by omega
  have E:tmE (suK ⟨0,1⟩ q.1 0)=[iv 0,iv 1]:=by unfold suK;rfl
  have w9:=E.symm;apply yk;apply kP;apply ye;refine ya ?_;refine za ?_;refine kV ?_;apply kW;apply yh;apply ye;refine yC ?_;apply kP;refine zW (λk=>[(1,btsA q.1),(7,.ptr 7 0 0 0),(8,.own 30),(9,.ptr 9 0 0 0),(28,btsA q.1),(29,iv (q.1.length:Int)),(30,iv (k:Int))]) (λk=>[(7,.box (tmE (meU m)) 61),(9,.box (tmE (suK ⟨0,1⟩ q.1 k)) 61),(30,.row btsE q.2 29 1)]) (λk=>k<=q.1.length/\BlK (meU m) q.1 k) q.1.length (λk hk=>?_) (hJ:=by exact⟨by omega,zBC _ _⟩);obtain⟨w2,V⟩:=hk;refine gd ?_ ?_<;>intro v9
  ·have xT:=@getX _ q.1 k (by omega);obtain⟨b,U,v8⟩:=xT;have v5:tmE (addV (suK ⟨0,1⟩ q.1 k) b.Dur)=tmE (suK ⟨0,1⟩ q.1 (k+1)):=by rw[zjm U]
   refine gc (zbl (suK ⟨0,1⟩ q.1 k) b.Dur) ?_;refine gd ?_ ?_<;>intro x4
   ·have x3:=zEP h0 J V U x4;obtain⟨hE,N⟩:=x3;apply ye;refine yC ?_;refine kQ ?_;refine kM (yd (ts:=[(4,blsA []),(5,iv (addE (suK ⟨0,1⟩ q.1 k) b.Dur))]) (hs:=[])) ?_;refine yl ?_ ?_;all_goals(first|exact zE N|exact zE hE)
   have he:addE (suK ⟨0,1⟩ q.1 k) b.Dur=0:=by omega
   refine gq ?_;refine yR (zlU (addV (suK ⟨0,1⟩ q.1 k) b.Dur) (meU m)) ?_;(iterate 4 refine ya ?_);refine za ?_;refine ya ?_;refine kV ?_;refine ya ?_;apply yE;(iterate 2 refine ya ?_);refine kU 2 ?_;refine yo ?_;(iterate 3 refine kS ?_);refine gf ?_ ?_<;>intro T
   ·have hw:whB (meU m) (suK ⟨0,1⟩ q.1 (k+1))=true:=by unfold whB;rw[zjm U];simp[T.1,T.2]
    have v4:q.1.drop ((k:Int)+1).toNat=q.1.drop (k+1):=by rw[show((k:Int)+1).toNat=k+1 by omega]
    have v3:q.2++[q.1.take ((k:Int)+1).toNat]=q.2++[q.1.take (k+1)]:=by rw[show((k:Int)+1).toNat=k+1 by omega]
    refine gq ?_
    first
     |refine zo (zcB rfl rfl rfl sl29 ty63 (by omega) (by omega)) rfl ?_
     |refine zo (zdi rfl rfl sl29 ty63 (λ_=>rfl) (by omega) (by omega)) rfl ?_
    refine yR (zag (q.1.take ((k:Int)+1).toNat) (by rw[jO];omega)) ?_;refine yD btsE [q.1.take ((k:Int)+1).toNat] ?_;refine gq ?_
    first
     |refine zo (zx rfl rfl rfl sl29 ty63 (by omega) (by omega)) rfl ?_
     |refine zo (zY rfl rfl sl29 ty63 (λ_=>rfl) (by omega) (by omega)) rfl ?_
    refine gq ?_;refine yu (q.1.drop (k+1),q.2++[q.1.take (k+1)]) (hJ:=J.cut V U he hw) (hm:=by have:=(j5.1 U).1;show(q.1.drop (k+1)).length<q.1.length;rw[u7];omega) (hI:=yg)
   have hw:¬whB (meU m) (suK ⟨0,1⟩ q.1 (k+1))=true:=by
    intro e;unfold whB at e;rw[zjm U]at e;simp only[jA,w4]at e;rcases T with h|h
    ·exact h e.1
    ·exact h e.2
   refine gq ?_;refine yu (k+1) (hJ:=by exact⟨by omega,V.s U he hw⟩) (hI:=yg)
  ·obtain rfl:k=q.1.length:=by omega
   refine gq ?_;refine yR (zag q.1 (by omega)) ?_;refine yD btsE [q.1] ?_;refine gq ?_;refine yu ([],q.2++[q.1]) (hJ:=J.last V Z) (hm:=by show 0<q.1.length;exact Z) (hI:=yg)
 ·have Z:q.1=[]:=jR (by omega);have hO:BlO (meU m) l [] q.2:=Z▸J;have x2:=zEQ h0 hO;obtain⟨hE,N⟩:=x2;apply bA;apply ye;refine yC ?_;refine kQ ?_;refine kM (kL (k:=30) rfl) ?_;refine yl ?_ ?_;all_goals(first|exact zE N|exact zE hE)
end
section
abbrev mO:Mn:=⟨2,2,3,2⟩
abbrev hAll:Hb:=⟨true,true,true⟩
def bt1(n:Int):Bt:=⟨⟨n/gI n 1,1/gI n 1⟩,false⟩
def wnS(x:Int):Sg:=if x=0 then⟨3,0,0,0,false,0,false,false,⟨0,0,0,0⟩,false,0,0,0,0⟩else if x<0 then⟨1,-x,4,0,true,0,false,false,⟨0,0,0,0⟩,false,0,0,0,0⟩else⟨1,x,4,0,false,0,false,false,⟨0,0,0,0⟩,false,0,0,0,0⟩
def zER{l:List Int}{k:Nat}{x:Int}(h:l[k]? =some x):(l.take k).map bt1++[bt1 x]=(l.take (k+1)).map bt1:=by
 rw[jG,h];simp
def zES{l:List Int}{k:Nat}{x:Int}(h:l[k]? =some x):(l.take k).map wnS++[wnS x]=(l.take (k+1)).map wnS:=by
 rw[jG,h];simp
def zr9{α β:Type}(f:α->β)(l:List α)(k:Nat):((l.take k).map f).length<=l.length:=by rw[jS,jO];omega
def zwO{α:Type}{l:List α}{k:Nat}{x:α}(h:l[k]? =some x):l.take k++[x]=l.take (k+1):=by rw[jG,h];rfl
def F6:List (List Sg):=[[wnS 3],[wnS 3,wnS 0],[wnS (-3)],[wnS (-3),wnS 0],[wnS 4],[wnS 4,wnS 0]]
def zET:(decide (wcE mO [bt1 4]=0)&&decide (fmV mO (bt1 4) hAll=F6))=true:=by kernel_rfl
def zEU:(decide (blE mO ([6,4,2,2].map bt1)=0)&&decide (blV mO ([6,4,2,2].map bt1)=[[6].map bt1,[4,2].map bt1,[2].map bt1]))=true:=by kernel_rfl
def zEV:(decide (wisE mO ([4,2,6].map bt1) ([3,4,3].map wnS)=0)&&wisB mO ([4,2,6].map bt1) ([3,4,3].map wnS))=true:=by kernel_rfl
def wrQ(l:List Int)(h:Hb)(w:List Int):Bool:=decide (wrE mO (l.map bt1) h=0)&&decide (wrV mO (l.map bt1) h=w.map wnS)
def zEW:wrQ [6,2,4,6] ⟨false,false,true⟩ [3,4,4,3]=true:=by kernel_rfl
attribute [local irreducible] Pur yy yz Ex X Fn Imp LeV LeB FnO It yH FnW FnOW FnP FnD
attribute [local irreducible] wcE fmV blE blV wisE wisB wrE wrV bt1 wnS
def zd:Fn prog 17 [] (mnA mO):=by
 refine kR func17 ntmps17 (λg w d=>?_);refine gq ?_;refine kY (.one (.cellA rfl rfl rfl rfl ty27 (kO ?_)));all_goals exact zR
def zN:Fn prog 20 [] (hbA hAll):=by
 refine kR func20 ntmps20 (λg w d=>?_);refine gq ?_;refine kY (.one (.cellA rfl rfl rfl rfl ty24 (kO ?_)));all_goals exact zR
def zgd(a b:List Bt)(hl:a.length<=4000000000):Fn prog 50 [btsA a,btsA b] (.bool (decide (a=b))):=by
 refine kR func50 ntmps50 (λg w d=>?_);refine gd ?_ ?_<;>intro H
 ·have U:decide (a=b)=false:=by rw[w5];intro h;subst h;exact H rfl
  refine gq ?_;all_goals rw[U]
 have T:a.length=b.length:=by omega
 apply yk;apply yh;apply ye;refine yj ?_;apply kP;refine zW (λk=>[(0,btsA a),(1,btsA b),(5,iv (k:Int))]) (λk=>[]) (λk=>k<=a.length/\a.take k=b.take k) a.length (λk hk=>?_) (hJ:=by exact⟨by omega,by simp⟩);obtain⟨G,Z⟩:=hk;refine gd ?_ ?_<;>intro E
 ·have V:=@getX _ a k (by omega);obtain⟨x,hx,xT⟩:=V;have V:=@getX _ b k (by omega);obtain⟨y,N,x4⟩:=V;refine gq ?_;refine yW [17,18,19,20,21,22,23,24,25] [0,0,3,7,0,0,48,112,255] mo ?_;iterate 8 refine yb ?_
  refine yb ?_ (hs:=by exact zeZ (zum _ _) inferInstance TyK.h rfl rfl rfl rfl rfl);refine yI ?_;refine gd ?_ ?_<;>intro J
  ·have U:decide (a=b)=false:=by rw[w5];intro h;subst h;rw[hx]at N;injection N with N;exact(by simpa using J:¬x=y) N
   refine gq ?_;all_goals rw[U]
  refine gq ?_;refine yu (k+1) (hJ:=by exact⟨by omega,by rw[←zwO hx,←zwO N,Z,(by simpa using J:x=y)]⟩) (hI:=yg)
 ·have U:decide (a=b)=true:=by
   have h1:k=a.length:=by omega
   rw[jZ];subst h1;rw[jK,T,jK]at Z;exact Z
  refine gq ?_;all_goals rw[U]
def yT(l:List Int)(hl:l.length<=1000)(hr:∀x∈l,0<=x/\x<=1000):Fn prog 18 [yc l] (btsA (l.map bt1)):=by
 have T:[]=(l.take 0).map bt1:=by simp
 refine kR func18 ntmps18 (λg w d=>?_);apply ye;refine ya ?_;apply yE;refine yj ?_;iterate 2 apply yh
 refine kT (yG btE 63 3 3 30 rfl rfl) ?_;apply yf;refine yj ?_;apply kP;refine zm (λk=>[(0,yc l),(3,.own 30),(4,iv (k:Int))]) (λk=>[(30,.row btE ((l.take k).map bt1) 63 3)]) l.length (λk hk=>?_);refine gd ?_ ?_<;>intro N
 ·have Z:=@getX _ l k (by omega);obtain⟨x,hx,J⟩:=Z;have H:=hr x (j8 hx);have V:=zER hx;have U:(l.take k).map bt1++[⟨⟨x/gI x 1,1/gI x 1⟩,false⟩]=(l.take (k+1)).map bt1:=by rw[←V];unfold bt1;rfl
  have G:=zr9 bt1 l k;refine gc (zfC x 1 (by omega) (by omega)) ?_;refine yD btE [⟨⟨x/gI x 1,1/gI x 1⟩,false⟩] ?_;refine gq ?_;refine yu (k+1) (hI:=yg)
 ·obtain rfl:k=l.length:=by omega
  have E:(l.take l.length).map bt1=l.map bt1:=by rw[jK]
  apply bA;apply ye;refine yQ ?_;refine kQ ?_;refine kM (kL (k:=30) rfl) ?_;refine gq ?_;all_goals(exact j9 (λz=>btsA z) E)
def zaM(l:List Int)(hl:l.length<=1000)(hr:∀x∈l,-1000<=x/\x<=1000):Fn prog 22 [yc l] (sgsA (l.map wnS)):=by
 have H:[]=(l.take 0).map wnS:=by simp
 refine kR func22 ntmps22 (λg w d=>?_);apply ye;refine ya ?_;apply yE;refine yj ?_;iterate 2 apply yh
 refine kT (yG sgE 76 17 3 30 rfl rfl) ?_;apply yf;refine yj ?_;apply kP;refine zm (λk=>[(0,yc l),(3,.own 30),(4,iv (k:Int))]) (λk=>[(30,.row sgE ((l.take k).map wnS) 76 17)]) l.length (λk hk=>?_);refine gd ?_ ?_<;>intro G
 ·have T:=@getX _ l k (by omega);obtain⟨x,hx,E⟩:=T;have xT:=hr x (j8 hx);have Z:=zES hx;have x4:=zr9 wnS l k;refine gd ?_ ?_<;>intro V
  ·have U:wnS x=⟨3,0,0,0,false,0,false,false,⟨0,0,0,0⟩,false,0,0,0,0⟩:=by unfold wnS;rw[j6 V]
   rw[U]at Z;refine gq ?_;refine yD sgE [⟨3,0,0,0,false,0,false,false,⟨0,0,0,0⟩,false,0,0,0,0⟩] ?_;refine gq ?_;refine yu (k+1) (hI:=yg)
  ·have J:=Z;refine gd ?_ ?_<;>intro N
   ·have U:wnS x=⟨1,-x,4,0,true,0,false,false,⟨0,0,0,0⟩,false,0,0,0,0⟩:=by unfold wnS;rw[j7 V,j6 N]
    rw[U]at Z;refine gq ?_;refine yD sgE [⟨1,-x,4,0,true,0,false,false,⟨0,0,0,0⟩,false,0,0,0,0⟩] ?_;refine gq ?_;refine yu (k+1) (hI:=yg)
   ·have U:wnS x=⟨1,x,4,0,false,0,false,false,⟨0,0,0,0⟩,false,0,0,0,0⟩:=by unfold wnS;rw[j7 V,j7 (show¬x<0 by omega)]
    rw[U]at Z;refine gq ?_;refine yD sgE [⟨1,x,4,0,false,0,false,false,⟨0,0,0,0⟩,false,0,0,0,0⟩] ?_;refine gq ?_;refine yu (k+1) (hI:=yg)
 ·obtain rfl:k=l.length:=by omega
  have hV:(l.take l.length).map wnS=l.map wnS:=by rw[jK]
  apply bA;apply ye;refine yQ ?_;refine kQ ?_;refine kM (kL (k:=30) rfl) ?_;refine gq ?_;all_goals(exact j9 (λz=>sgsA z) hV)
def zeM(l:List Bt)(h:Hb)(ws:List Int)(hl:l.length<=4000000000)(Z:ws.length<=1000)(hr:∀x∈ws,-1000<=x/\x<=1000)(hv:(wrV mO l h).length<=4000000000):Fn prog 24 [btsA l,hbA h,yc ws] (.bool (decide (wrE mO l h=0)&&decide (wrV mO l h=ws.map wnS))):=by
 refine kR func24 ntmps24 (λg w d=>?_);refine gq ?_;refine yW [7,8,9,10,11,12,13,14,15] [0,0,0,7,15,31,31,63,255] mo ?_;refine yO zd ?_;iterate 2 refine yb ?_
 refine yO (zds mO l h hl) ?_;iterate 5 refine yb ?_
 refine yI ?_;apply yE;iterate 2 refine ya ?_
 refine kU 2 ?_;refine gq ?_;refine bJ (zaM ws Z hr) ?_;refine bJ (zaG (wrV mO l h) (ws.map wnS) hv) ?_;refine ge ?_;all_goals exact zR
def zge(l:List Bt)(h:Hb)(hl:l.length<=4000000000):Fn prog 23 [btsA l,hbA h] (.bool (decide (wrE mO l h=18)&&decide (((wrV mO l h).length:Int)=0))):=by
 refine kR func23 ntmps23 (λg w d=>?_);refine gq ?_;refine yW [5,6,7,8,9,10,11,12,13] [0,0,0,7,15,31,31,63,255] mo ?_;refine yO zd ?_;iterate 2 refine yb ?_
 refine yO (zds mO l h hl) ?_;iterate 5 refine yb ?_
 refine yI ?_;apply yE;iterate 2 refine ya ?_
 refine kU 2 ?_;refine yo ?_;iterate 3 refine kS ?_
 refine ge ?_;all_goals exact zR
def zBH:Fn prog 16 [mnA mO,btA (bt1 4),hbA hAll] (.tup [zeI F6,iv 0]):=by
 have h:=zfI mO (bt1 4) hAll;have e:=zET;rw[jA,jZ,jZ]at e;rw[e.1,e.2]at h;exact h
def zBI:Fn prog 43 [mnA mO,btsA ([6,4,2,2].map bt1)] (.tup [blsA [[6].map bt1,[4,2].map bt1,[2].map bt1],iv 0]):=by
 have h:=zeL mO ([6,4,2,2].map bt1) (by decide);have e:=zEU;rw[jA,jZ,jZ]at e;rw[e.1,e.2]at h;exact h
def zBJ:Fn prog 11 [mnA mO,btsA ([4,2,6].map bt1),sgsA ([3,4,3].map wnS)] (.tup [.bool true,iv 0]):=by
 have h:=zjo mO ([4,2,6].map bt1) ([3,4,3].map wnS) (by decide) (by decide);have e:=zEV;rw[jA,jZ]at e;rw[e.1,e.2]at h;exact h
def zmY{l:List Int}{h:Hb}{w:List Int}(e:wrQ l h w=true)(hl:l.length<=1000)(Z:w.length<=1000)(hr:∀x∈w,-1000<=x/\x<=1000):Fn prog 24 [btsA (l.map bt1),hbA h,yc w] (.bool true):=by
 unfold wrQ at e;have e2:=e;rw[jA,jZ,jZ]at e2;have c:=zeM (l.map bt1) h w (by rw[jS];omega) Z hr (by rw[e2.2,jS];omega);rw[e]at c;exact c
set_option maxRecDepth 100000 in
def zfx:Fn prog 25 [] (.bool true):=by
 have Z:([4].map bt1)[(0:Int).toNat]? =some (bt1 4):=rfl;have V:F6[(5:Int).toNat]? =some [wnS 4,wnS 0]:=rfl;have U:([[6].map bt1,[4,2].map bt1,[2].map bt1]:List (List Bt))[(1:Int).toNat]? =some ([4,2].map bt1):=rfl;refine kR func25 ntmps25 (λg w d=>?_);refine gq ?_;refine yW [1,2,7,8,9,10,11,12,13,14,15,16] [0,0,3,7,15,7,63,127,255,255,511,2047] mo ?_;refine yO zd ?_;refine ChM.step rfl rfl rfl (zzf (enc:=intE) (l:=[4]) sl22 ty3 ze3) rfl ?_;refine yO (yT [4] (by decide) (by decide)) ?_;iterate 2 refine yb ?_
 refine yO zN ?_;refine yO zBH ?_;iterate 5 refine yb ?_
 refine yI ?_;apply yE;refine yR zd ?_;refine bE (yr (enc:=intE) (l:=[6,4,2,2]) sl22 ty3 ze3 (by decide) rfl rfl rfl rfl (by decide) (by decide) (λ_=>rfl) rfl) rfl rfl ?_;refine yR (yT [6,4,2,2] (by decide) (by decide)) ?_;refine gc zBI ?_;refine yR zd ?_;refine bE (yr (enc:=intE) (l:=[4,2,6]) sl22 ty3 ze3 (by decide) rfl rfl rfl rfl (by decide) (by decide) (λ_=>rfl) rfl) rfl rfl ?_;refine yR (yT [4,2,6] (by decide) (by decide)) ?_;refine bE (yr (enc:=intE) (l:=[3,4,3]) sl22 ty3 ze3 (by decide) rfl rfl rfl rfl (by decide) (by decide) (λ_=>rfl) rfl) rfl rfl ?_;refine yR (zaM [3,4,3] (by decide) (by decide)) ?_;refine gc zBJ ?_;refine yW [0,33,34,35,36,37,38,39,40,41,42,43,44,45,46,47,48,49,50,51,52,53,54,55,56,57,58,59,60,61,62,63,64,65,66,67,68,69,70,71,72,73,74,75,76,77,78] [0,1,3,7,15,31,63,127,255,511,1023,255,2303,8191,16383,32767,65535,131071,262143,524287,1048575,2097151,4194303,8388607,16777215,33554431,67108863,134217727,33554431,301989887,1073741823,2147483647,4294967295,8589934591,17179869183,34359738367,68719476735,137438953471,274877906943,549755813887,1099511627775,2199023255551,1099511627775,1099511627775,17592186044415,35184372088831,70368744177663] mo ?_;iterate 3 refine yb ?_
 iterate 3 refine kZ ?_
 iterate 2 refine yb ?_
 iterate 3 refine kZ ?_
 refine ChM.gs (yr (enc:=intE) (l:=[4,0]) sl22 ty3 ze3 (by decide) rfl rfl rfl rfl (by decide) (by decide) (λ_=>rfl) rfl) ?_;refine bK (zaM [4,0] (by decide) (by decide)) ?_;refine bK (zaG [wnS 4,wnS 0] ([4,0].map wnS) (by decide)) ?_;iterate 2 refine yb ?_
 iterate 2 refine kZ ?_
 iterate 2 refine yb ?_
 iterate 3 refine kZ ?_
 iterate 2 refine yb ?_
 iterate 3 refine kZ ?_
 refine ChM.gs (yr (enc:=intE) (l:=[4,2]) sl22 ty3 ze3 (by decide) rfl rfl rfl rfl (by decide) (by decide) (λ_=>rfl) rfl) ?_;refine bK (yT [4,2] (by decide) (by decide)) ?_;refine bK (zgd ([4,2].map bt1) ([4,2].map bt1) (by decide)) ?_;iterate 2 refine yb ?_
 iterate 2 refine kZ ?_
 iterate 2 refine yb ?_
 refine kZ ?_;iterate 2 refine yb ?_
 refine ChM.gs (yr (enc:=intE) (l:=[6,2,4,6]) sl22 ty3 ze3 (by decide) rfl rfl rfl rfl (by decide) (by decide) (λ_=>rfl) rfl) ?_;refine bK (yT [6,2,4,6] (by decide) (by decide)) ?_;refine kZ ?_;refine ChM.gs (yr (enc:=intE) (l:=[3,4,4,3]) sl22 ty3 ze3 (by decide) rfl rfl rfl rfl (by decide) (by decide) (λ_=>rfl) rfl) ?_;refine bK (zmY zEW (by decide) (by decide) (by decide)) ?_;iterate 2 refine yb ?_
 refine yI ?_;refine gq ?_;all_goals(first|rfl|(simp[F6];done)|simp)
end
section
abbrev h0Hb:Hb:=⟨false,false,false⟩
def bt2r:Bt:=⟨⟨2/gI 2 1,1/gI 2 1⟩,true⟩
def rtS(v:Int):Sg:=⟨2,v,0,0,false,0,false,false,⟨0,0,0,0⟩,false,0,0,0,0⟩
def F2r:List (List Sg):=[[rtS 4],[rtS 4,wnS 0]]
def fmQ(b:Bt)(h:Hb)(F:List (List Sg)):Bool:=decide (wcE mO [b]=0)&&decide (fmV mO b h=F)
def zEX:fmQ (bt1 4) h0Hb [[wnS 3]]=true:=by kernel_rfl
def zEY:fmQ bt2r hAll F2r=true:=by kernel_rfl
def zEZ:fmQ (bt1 5) hAll []=true:=by kernel_rfl
def noQ(l:List Int)(h:Hb):Bool:=decide (wrE mO (l.map bt1) h=18)&&decide (((wrV mO (l.map bt1) h).length:Int)=0)
def zE0:noQ [6,2,4,6] h0Hb=true:=by kernel_rfl
def zE1:noQ [5] hAll=true:=by kernel_rfl
def zE2:wrQ [6,2,4,6] hAll [3,4,-3,3]=true:=by kernel_rfl
def zE3:wrQ [4,2,6] h0Hb [3,4,3]=true:=by kernel_rfl
def zE4:wrQ [3,1,2] hAll [4,0,5,4]=true:=by kernel_rfl
def zE5:wrQ [6,6,2,2,2] h0Hb [3,3,4,4,4]=true:=by kernel_rfl
def zsa{b:Bt}{h:Hb}{F:List (List Sg)}(e:fmQ b h F=true):Fn prog 16 [mnA mO,btA b,hbA h] (.tup [zeI F,iv 0]):=by
 have c:=zfI mO b h;unfold fmQ at e;rw[jA,jZ,jZ]at e;rw[e.1,e.2]at c;exact c
def zwP{l:List Int}{h:Hb}(e:noQ l h=true)(hl:l.length<=1000):Fn prog 23 [btsA (l.map bt1),hbA h] (.bool true):=by
 have c:=zge (l.map bt1) h (by rw[jS];omega);unfold noQ at e;rw[e]at c;exact c
attribute [local irreducible] Pur yy yz Ex X Fn Imp LeV LeB FnO It yH FnW FnOW FnP FnD
attribute [local irreducible] wcE fmV wrE wrV bt1 wnS rtS yw mMk
set_option maxRecDepth 100000 in
def zdr:Fn prog 4 [] (.bool true):=by
 have V:([4].map bt1)[(0:Int).toNat]? =some (bt1 4):=rfl;have U:([5].map bt1)[(0:Int).toNat]? =some (bt1 5):=rfl;have T:([[wnS 3]]:List (List Sg))[(0:Int).toNat]? =some [wnS 3]:=rfl;have N:F2r[(1:Int).toNat]? =some [rtS 4,wnS 0]:=rfl;have J:=zfC 2 1 (by decide) (by decide);refine kR func4 ntmps4 (λg w d=>?_);refine gq ?_;refine yR zd ?_;refine bE (yr (enc:=intE) (l:=[4]) sl22 ty3 ze3 (by decide) rfl rfl rfl rfl (by decide) (by decide) (λ_=>rfl) rfl) rfl rfl ?_;refine gc (yT [4] (by decide) (by decide)) ?_;refine gc (zsa zEX) ?_;refine yR zd ?_;refine gc J ?_;refine yR zN ?_;refine gc (zsa zEY) ?_;refine yW [5,6,26,27,28,29,30,31,32,33,34,35] [0,0,3,7,15,7,63,127,255,255,511,2047] mo ?_;refine yO zd ?_;refine ChM.step rfl rfl rfl (zzf (enc:=intE) (l:=[5]) sl22 ty3 ze3) rfl ?_;refine yO (yT [5] (by decide) (by decide)) ?_;iterate 2 refine yb ?_
 refine yO zN ?_;refine yO (zsa zEZ) ?_;iterate 5 refine yb ?_
 refine yI ?_;refine gq ?_;refine yW [36,37,38,39,40,41,42,43,44,45,46,47,48,49,50,51,52,53,54,55,56,57,58,59,60,61,62,63,64,65,66,67,68,69,70,71,72,73,74,75,76] [0,1,3,7,15,31,63,127,255,511,1023,255,2303,8191,16383,32767,65535,131071,262143,524287,1048575,2097151,4194303,8388607,16777215,33554431,67108863,134217727,268435455,536870911,1073741823,2147483647,4294967295,8589934591,17179869183,34359738367,68719476735,137438953471,274877906943,549755813887,1099511627775] mo ?_;iterate 3 refine yb ?_
 iterate 3 refine kZ ?_
 iterate 2 refine yb ?_
 iterate 3 refine kZ ?_
 refine ChM.gs (yr (enc:=intE) (l:=[3]) sl22 ty3 ze3 (by decide) rfl rfl rfl rfl (by decide) (by decide) (λ_=>rfl) rfl) ?_;refine bK (zaM [3] (by decide) (by decide)) ?_;refine bK (zaG [wnS 3] ([3].map wnS) (by decide)) ?_;refine kZ ?_;iterate 2 refine yb ?_
 iterate 2 refine kZ ?_
 iterate 2 refine yb ?_
 iterate 3 refine kZ ?_
 iterate 2 refine yb ?_
 iterate 5 refine kZ ?_
 iterate 2 refine yb ?_
 iterate 2 refine kZ ?_
 iterate 2 refine yb ?_
 iterate 3 refine kZ ?_
 refine yb ?_;refine yI ?_;refine gd ?_ ?_<;>intro Z
 ·simp[F2r]at Z
 refine gq ?_;refine bE (yr (enc:=intE) (l:=[6,2,4,6]) sl22 ty3 ze3 (by decide) rfl rfl rfl rfl (by decide) (by decide) (λ_=>rfl) rfl) rfl rfl ?_;refine gc (yT [6,2,4,6] (by decide) (by decide)) ?_;refine yR (zwP zE0 (by decide)) ?_;refine ya ?_;refine yU rfl rfl rfl ?_;refine bE (yr (enc:=intE) (l:=[6,2,4,6]) sl22 ty3 ze3 (by decide) rfl rfl rfl rfl (by decide) (by decide) (λ_=>rfl) rfl) rfl rfl ?_;refine yU rfl rfl rfl ?_;refine yR (yT [6,2,4,6] (by decide) (by decide)) ?_;refine yU rfl rfl rfl ?_;refine yR zN ?_;refine yU rfl rfl rfl ?_;refine bE (yr (enc:=intE) (l:=[3,4,-3,3]) sl22 ty3 ze3 (by decide) rfl rfl rfl rfl (by decide) (by decide) (λ_=>rfl) rfl) rfl rfl ?_;refine yU rfl rfl rfl ?_;refine yR (zmY zE2 (by decide) (by decide) (by decide)) ?_;iterate 2 refine ya ?_
 refine yU rfl rfl rfl ?_;refine bE (yr (enc:=intE) (l:=[4,2,6]) sl22 ty3 ze3 (by decide) rfl rfl rfl rfl (by decide) (by decide) (λ_=>rfl) rfl) rfl rfl ?_;refine yU rfl rfl rfl ?_;refine yR (yT [4,2,6] (by decide) (by decide)) ?_;refine yU rfl rfl rfl ?_;refine ya ?_;refine yU rfl rfl rfl ?_;refine bE (yr (enc:=intE) (l:=[3,4,3]) sl22 ty3 ze3 (by decide) rfl rfl rfl rfl (by decide) (by decide) (λ_=>rfl) rfl) rfl rfl ?_;refine yU rfl rfl rfl ?_;refine gc (zmY zE3 (by decide) (by decide) (by decide)) ?_;refine yR zfx ?_;refine ya ?_;refine yU rfl rfl rfl ?_;iterate 3 refine ya ?_
 refine yU rfl rfl rfl ?_;refine bE (yr (enc:=intE) (l:=[3,1,2]) sl22 ty3 ze3 (by decide) rfl rfl rfl rfl (by decide) (by decide) (λ_=>rfl) rfl) rfl rfl ?_;refine yU rfl rfl rfl ?_;refine yR (yT [3,1,2] (by decide) (by decide)) ?_;refine yU rfl rfl rfl ?_;refine yR zN ?_;refine yU rfl rfl rfl ?_;refine bE (yr (enc:=intE) (l:=[4,0,5,4]) sl22 ty3 ze3 (by decide) rfl rfl rfl rfl (by decide) (by decide) (λ_=>rfl) rfl) rfl rfl ?_;refine yU rfl rfl rfl ?_;refine yR (zmY zE4 (by decide) (by decide) (by decide)) ?_;iterate 2 refine ya ?_
 refine yU rfl rfl rfl ?_;refine bE (yr (enc:=intE) (l:=[5]) sl22 ty3 ze3 (by decide) rfl rfl rfl rfl (by decide) (by decide) (λ_=>rfl) rfl) rfl rfl ?_;refine yU rfl rfl rfl ?_;refine yR (yT [5] (by decide) (by decide)) ?_;refine yU rfl rfl rfl ?_;refine yR zN ?_;refine yU rfl rfl rfl ?_;refine yR (zwP zE1 (by decide)) ?_;iterate 2 refine ya ?_
 refine yU rfl rfl rfl ?_;refine bE (yr (enc:=intE) (l:=[6,6,2,2,2]) sl22 ty3 ze3 (by decide) rfl rfl rfl rfl (by decide) (by decide) (λ_=>rfl) rfl) rfl rfl ?_;refine yU rfl rfl rfl ?_;refine yR (yT [6,6,2,2,2] (by decide) (by decide)) ?_;refine yU rfl rfl rfl ?_;refine ya ?_;refine yU rfl rfl rfl ?_;refine bE (yr (enc:=intE) (l:=[3,3,4,4,4]) sl22 ty3 ze3 (by decide) rfl rfl rfl rfl (by decide) (by decide) (λ_=>rfl) rfl) rfl rfl ?_;refine yU rfl rfl rfl ?_;refine gc (zmY zE5 (by decide) (by decide) (by decide)) ?_;all_goals(first|rfl|simp)
end
section
def zwQ{m:Mn}{l:List Bt}{h:Hb}(c:wcnE m l h=0):wcE m l=0:=by
 grind[zrL]
def zsb{m:Mn}{l:List Bt}(c:wcE m l=0):ckM m=0:=by
 grind[zr5]
def zsc{m:Mn}(hm:ckM m=0):reQ m [] []=true:=by
 have key:∀a b c d:Bool,reQ ⟨bif a then 2 else 3,bif b then 2 else 3,bif c then 2 else 3,bif d then 2 else 3⟩ [] []=true:=by decide+kernel
 obtain⟨p,q,r,s⟩:=m
 have h:(p=2\/p=3)/\(q=2\/q=3)/\(r=2\/r=3)/\(s=2\/s=3):=by
  unfold ckM at hm;split at hm
  ·rename_i h;exact h
  ·cases hm
 obtain⟨h1,Z,V,U⟩:=h;rcases h1 with rfl|rfl<;>rcases Z with rfl|rfl<;>rcases V with rfl|rfl<;>rcases U with rfl|rfl
 ·exact key true true true true
 ·exact key true true true false
 ·exact key true true false true
 ·exact key true true false false
 ·exact key true false true true
 ·exact key true false true false
 ·exact key true false false true
 ·exact key true false false false
 ·exact key false true true true
 ·exact key false true true false
 ·exact key false true false true
 ·exact key false true false false
 all_goals rfl
attribute [local irreducible] Pur yy yz Ex X Fn Imp LeV LeB FnO It yH FnW FnOW FnP FnD
attribute [local irreducible] wcE wcnE wcnV frV chV durB rdE rdV srV wrE wrV
end
section
def zur(m:Mn)(l:List Bt)(h:Hb):(wrV m l h).length<=24:=by
 by_cases c:wcnE m l h=0
 ·have Z:=znY c;unfold wrV;rw[j6 c];split
  ·simp
  ·cases hx:wrO m l h with
   |none=>simp
   |some x=>
    unfold wrO at hx;have:=(zik (n:=2) (λF V=>(znX m l h F V).2) hx).2;rw[zig]at this;simp only[wQ,vR]at*
    omega
 ·rw[(zB0 c).2];simp
attribute [local irreducible] Pur yy yz Ex X Fn Imp LeV LeB FnO It yH FnW FnOW FnP FnD
attribute [local irreducible] wcnE wcnV wrE wrV
end
section
def zus(r:List Sg)(k:Nat):rsL r=rsL (r.take k)++rsL (r.drop k):=by
 conv=>lhs;rw[←wB k r]
 unfold rsL;rw[uF,xC]
attribute [local irreducible] Pur yy yz Ex X Fn Imp LeV LeB FnO It yH FnW FnOW FnP FnD
attribute [local irreducible] wcE ckD durB rdE rdV rsL wisE wisB
end
section
end
section
attribute [local irreducible] Pur yy yz Ex X Fn Imp LeV LeB FnO It yH FnW FnOW FnP FnD
attribute [local irreducible] wcE wcnE wcnV frV chV wisE wisB durB
end
section
def uE:Unit->List AV:=λ_=>[]
def zjn{P:Program}{C:Ctx}{st:St}{ty:TypeId}{α:Type}{enc:α->List AV}{l:List α}{x:Operand}{k s:Nat}{E:TypeId}(hx:ev st x=some (.own k))(hk:lk st.h k=some (.row enc l E s)):Pur P C (.move x) ty st (.sl uE (List.replicate l.length ())):=λg a w dst pos af gd hr=>by
 obtain⟨xs,ho,-⟩:=hr.sat.blk k _ hk;refine⟨_,rfl,?_⟩;rw[←zaa (yA hr hx)];rcases ho with⟨-,⟨e1,e2⟩|⟨b,cap,cur,e1,-,-,Z,V,-⟩⟩
 ·rw[e1,e2];exact .sl uE [] none 0 0 0 0 (λ_ _=>.nilIface) (λh=>absurd rfl h) (jE _) (wK _) (λi x h=>by simp at h) (λi x j h=>by simp at h) (λi x j c h=>by simp at h)
 ·rw[e1];have h:=RV.sl (I:=g.I) (ρ:=g.ρ) uE (List.replicate l.length ()) (some ⟨b,0,none⟩) b 0 0 cap (λ_ _=>.nilIface) (λ_=>rfl) (by simpa using Z) V (λi x _=>rfl) (λi x j _ U=>absurd U (u0 _)) (λi x j c _ T=>by simp[uE]at T);simpa using h
attribute [local irreducible] Pur yy yz Ex X Fn Imp LeV LeB FnO It yH FnW FnOW FnP FnD
attribute [local irreducible] wcE wcnE wcnV rdE rdV bsV zbV rsL ckD
end
end Go.Rse
