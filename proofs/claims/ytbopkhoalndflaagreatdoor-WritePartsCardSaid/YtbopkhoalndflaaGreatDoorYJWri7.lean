/-
  Walks.
-/
import Derived.Test.YtbopkhoalndflaaGreatDoorYJRul7
import Derived.Lib.AppendZeros
set_option linter.all false
namespace Go.Rse
open Go Go.Proofs Go.Proofs.Tryz
section
def mnF(l:List Int)(k:Nat):Int:=minL ((l.take k).drop 1) (l.getD 0 0)
def zj4(x:Int):∀(l:List Int)(a:Int),minL (l++[x]) a=min (minL l a) x
 |[],a=>by
  show(if x<a then x else a)=min a x;rw[Int.min_def];by_cases h:x<a
  ·rw[j3 h,j4 (by omega)]
  ·rw[j4 h,j3 (by omega)]
 |y::r,a=>by show minL (r++[x]) _=min (minL r _) x;rw[zj4 x r]
def zy9(l:List Int):l.getD 0 0=mnF l 1:=by
 unfold mnF;cases l<;>simp[minL]
def zza{l:List Int}{k:Nat}{x:Int}(Z:1<=k)(h:l[k]? =some x):min (mnF l k) x=mnF l (k+1):=by
 unfold mnF;rw[jF,h]
 have:((l.take k)++(some x).toList).drop 1=(l.take k).drop 1++[x]:=by
  rw[vJ (by have:=(j1.1 h).1;rw[jM];omega)];rfl
 rw[this,zj4]
def zwH{m:Mn}(h:0<(perfL m).length):mnF (perfL m) (perfL m).length=meV m:=by
 unfold mnF meV;rw[jH];cases Z:perfL m with
 |nil=>rw[Z]at h;simp at h
 |cons x r=>simp
def zwI{m:Mn}(h:(perfL m).length=0):meV m=3:=by
 unfold meV;rw[jN h]
def zwJ{m:Mn}(h:ckM m=0):1<=meV m/\meV m<=4:=by
 have:=zaS zsG h (v:=1) (by decide) (by decide);unfold meQ at this;simpa using this
attribute [local irreducible] Pur yA yC Ex X Fn Imp LeV LeB FnO It yH FnW FnOW FnP FnD
attribute [local irreducible] wcE ckM perfL meV yx mnF addV addE whE whR whQ bkE bkV blE blV suK
def zeH(l:List Int)(hl:l.length<=4000000000)(h0:0<l.length):Fn prog 142 [yc l] (iv (mnF l l.length)):=by
 have V:=zy9 l;obtain⟨x0,Z⟩:∃x,l[0]? =some x:=⟨_,lgg h0⟩;have T:l[(0:Int).toNat]? =some x0:=Z;have N:x0=mnF l 1:=by rw[←V,j8,Z];rfl
 refine kF func142 ntmps142 (λg w d=>?_);refine gd ?_ ?_<;>intro J
 ·omega
 refine gq ?_;refine zd3 (ι:=Nat) (λ(k:Nat)=>[(0,yc l),(3,iv (mnF l k)),(4,iv (k:Int))]) (λ(k:Nat)=>[]) (λ(k:Nat)=>1<=k/\k<=l.length) (λ(k:Nat)=>l.length-k) 1 (λk I=>?_) (hJ:=by exact⟨by omega,by omega⟩) (h0:=by exact yi);obtain⟨U,H⟩:=I;refine gd ?_ ?_<;>intro G
 ·obtain⟨x,hx⟩:∃x,l[k]? =some x:=⟨_,lgg (by omega)⟩;have E:l[(k:Int).toNat]? =some x:=by simpa using hx
  have xT:=zza U hx;apply yk;apply yf;apply kB;apply yj;iterate 5 refine ya ?_
  refine zz (zzt rfl rfl) rfl ?_;refine gq ?_;refine yz (k+1) (hJ:=by exact⟨by omega,by omega⟩) (hI:=yi)
 ·obtain rfl:k=l.length:=by omega
  refine gq ?_;all_goals exact zR
def zhJ(m:Mn)(hm:ckM m=0):Fn prog 102 [mnA m] (tmA (meU m)):=by
 have V:=zwJ hm;have N:=zkF m;have U:=zdm m;rw[j3 hm,hm]at U;refine kF func102 ntmps102 (λg w d=>?_);refine gc U ?_;refine gd ?_ ?_<;>intro J
 ·have Z:=zeH (perfL m) (by omega) (by omega);rw[zwH (m:=m) (by omega)]at Z;refine gc Z ?_;refine gc (zaR hm V.1 (by omega)) ?_;refine kL (.one (.cellA rfl rfl rfl rfl ty83 (kC ?_)));all_goals(first|rfl|(unfold meU;rw[T];rfl))
 ·have T:=zwI (m:=m) (by omega);refine gc (zaR hm (v:=3) (by decide) (by decide)) ?_;refine kL (.one (.cellA rfl rfl rfl rfl ty83 (kC ?_)));all_goals(first|rfl|(unfold meU;rw[T];rfl))
def zac(l:List Bt)(hl:l.length<=4000000000):Fn prog 105 [btsA l] (btsA l):=by
 refine kF func105 ntmps105 (λg w d=>?_);apply ye;refine yh ?_;apply yf;apply ye;refine ya ?_;refine zwG (λbn U=>?_) Tryz.underlying24;refine gd ?_ ?_<;>intro Z
 ·have V:l=[]:=by
   cases l with
   |nil=>rfl
   |cons x r=>rw[U (by simp)]at Z;cases Z
  apply ye;refine yh ?_;refine kE ?_;refine kA (yd (ts:=[(2,btsA [])]) (hs:=[])) ?_;refine gq ?_;all_goals(first|exact j5 (λz=>btsA z) V.symm|rfl)
 refine gq ?_;refine yD btE [] ?_;refine ya ?_;refine kK ?_;refine yh ?_;refine kE ?_;refine kA (k9 (k:=5) rfl) ?_;refine gq ?_;all_goals(first|exact j5 (λz=>btsA z) V.symm|rfl)
set_option maxHeartbeats 2000000 in
def zcV(m:Mn)(l:List Bt)(hl:l.length<=1000000):Fn prog 48 [mnA m,btsA l] (.tup [blsA (blV m l),iv (blE m l)]):=by
 refine kF func48 ntmps48 (λg w d=>?_);refine gc (zb4 m l (by omega)) ?_;refine gd ?_ ?_<;>intro I
 ·have H:=zyC I;obtain⟨hE,N⟩:=H;apply ye;refine yE ?_;refine kE ?_;refine kA (yd (ts:=[(4,blsA []),(5,iv (wcE m l))]) (hs:=[])) ?_;refine ym ?_ ?_;all_goals(first|exact zE N|exact zE hE)
 have h0:wcE m l=0:=by omega
 have hm:ckM m=0:=by
  apply wI;intro h;rw[zs4 h]at h0;exact h h0
 refine gq ?_;refine yP (zhJ m hm) ?_;refine zk ?_;refine kK ?_;apply yG;refine yh ?_;apply yf;refine X.label ?_;apply yf;apply kB;refine kJ (yI btsE 24 1 8 30 rfl rfl) ?_;refine zd3 (ι:=List Bt×List (List Bt)) (λ(q:List Bt×List (List Bt))=>[(1,btsA q.1),(7,.ptr 7 0 0 0),(8,.own 30)]) (λ(q:List Bt×List (List Bt))=>[(7,.box (tmE (meU m)) 83),(30,.row btsE q.2 24 1)]) (λ(q:List Bt×List (List Bt))=>BlO (meU m) l q.1 q.2) (λ(q:List Bt×List (List Bt))=>q.1.length) (l,[]) (λq G=>?_) (hJ:=by exact zyB _ _) (h0:=by exact yi);have J:=G;have x2:=J.n;refine gd ?_ ?_<;>intro x1
 ·have Z:0<q.1.length:=by omega
  have E:tmE (suK ⟨0,1⟩ q.1 0)=[iv 0,iv 1]:=by unfold suK;rfl
  have x0:=E.symm;apply yk;apply kB;apply ye;refine ya ?_;refine zk ?_;refine kK ?_;apply kQ;apply yf;apply ye;refine yE ?_;apply kB;refine zM (λk=>[(1,btsA q.1),(7,.ptr 7 0 0 0),(8,.own 30),(9,.ptr 9 0 0 0),(28,btsA q.1),(29,iv (q.1.length:Int)),(30,iv (k:Int))]) (λk=>[(7,.box (tmE (meU m)) 83),(9,.box (tmE (suK ⟨0,1⟩ q.1 k)) 83),(30,.row btsE q.2 24 1)]) (λk=>k<=q.1.length/\BlK (meU m) q.1 k) q.1.length (λk G=>?_) (hJ:=by exact⟨by omega,zyA _ _⟩);obtain⟨w2,V⟩:=G;refine gd ?_ ?_<;>intro v9
  ·obtain⟨b,U⟩:∃b,q.1[k]? =some b:=⟨_,lgg (by omega)⟩;have v8:q.1[(k:Int).toNat]? =some b:=by simpa using U
   have v5:tmE (addV (suK ⟨0,1⟩ q.1 k) b.Dur)=tmE (suK ⟨0,1⟩ q.1 (k+1)):=by rw[ziC U]
   refine gc (zbf (suK ⟨0,1⟩ q.1 k) b.Dur) ?_;refine gd ?_ ?_<;>intro xT
   ·have x4:=zBw h0 J V U xT;obtain⟨hE,N⟩:=x4;apply ye;refine yE ?_;refine kE ?_;refine kA (yd (ts:=[(4,blsA []),(5,iv (addE (suK ⟨0,1⟩ q.1 k) b.Dur))]) (hs:=[])) ?_;refine ym ?_ ?_;all_goals(first|exact zE N|exact zE hE)
   have he:addE (suK ⟨0,1⟩ q.1 k) b.Dur=0:=by omega
   refine gq ?_;refine yP (zkV (addV (suK ⟨0,1⟩ q.1 k) b.Dur) (meU m)) ?_;(iterate 4 refine ya ?_);refine zk ?_;refine ya ?_;refine kK ?_;refine ya ?_;apply yG;(iterate 2 refine ya ?_);refine kI 2 ?_;refine yp ?_;(iterate 3 refine kG ?_);refine gf ?_ ?_<;>intro T
   ·have hw:whB (meU m) (suK ⟨0,1⟩ q.1 (k+1))=true:=by unfold whB;rw[ziC U];simp[T.1,T.2]
    have v4:q.1.drop ((k:Int)+1).toNat=q.1.drop (k+1):=by rw[show((k:Int)+1).toNat=k+1 by omega]
    have v3:q.2++[q.1.take ((k:Int)+1).toNat]=q.2++[q.1.take (k+1)]:=by rw[show((k:Int)+1).toNat=k+1 by omega]
    refine gq ?_
    first
     |refine zz (zcw rfl rfl rfl sl24 zfK (by omega) (by omega)) rfl ?_
     |refine zz (zdj rfl rfl sl24 zfK (λ_=>rfl) (by omega) (by omega)) rfl ?_
    refine yP (zac (q.1.take ((k:Int)+1).toNat) (by rw[jM];omega)) ?_;refine yD btsE [q.1.take ((k:Int)+1).toNat] ?_;refine gq ?_
    first
     |refine zz (zf rfl rfl rfl sl24 zfK (by omega) (by omega)) rfl ?_
     |refine zz (zp rfl rfl sl24 zfK (λ_=>rfl) (by omega) (by omega)) rfl ?_
    refine gq ?_;refine yz (q.1.drop (k+1),q.2++[q.1.take (k+1)]) (hJ:=J.cut V U he hw) (hm:=by have:=(j1.1 U).1;show(q.1.drop (k+1)).length<q.1.length;rw[wM];omega) (hI:=yi)
   have hw:¬whB (meU m) (suK ⟨0,1⟩ q.1 (k+1))=true:=by
    intro e;unfold whB at e;rw[ziC U]at e;simp only[j7,w5]at e;rcases T with h|h
    ·exact h e.1
    ·exact h e.2
   refine gq ?_;refine yz (k+1) (hJ:=by exact⟨by omega,V.s U he hw⟩) (hI:=yi)
  ·obtain rfl:k=q.1.length:=by omega
   refine gq ?_;refine yP (zac q.1 (by omega)) ?_;refine yD btsE [q.1] ?_;refine gq ?_;refine yz ([],q.2++[q.1]) (hJ:=J.last V Z) (hm:=by show 0<q.1.length;exact Z) (hI:=yi)
 ·have Z:q.1=[]:=jN (by omega);have hO:BlO (meU m) l [] q.2:=Z▸J;have x3:=zBx h0 hO;obtain⟨hE,N⟩:=x3;apply kO;apply ye;refine yE ?_;refine kE ?_;refine kA (k9 (k:=30) rfl) ?_;refine ym ?_ ?_;all_goals(first|exact zE N|exact zE hE)
end
section
abbrev mO:Mn:=⟨2,2,3,2⟩
abbrev hAll:Hb:=⟨true,true,true⟩
def bt1(n:Int):Bt:=⟨⟨n/gI n 1,1/gI n 1⟩,false⟩
def wnS(x:Int):Sg:=if x=0 then⟨3,0,0,0,false,0,false,false,⟨0,0,0,0⟩,false,0,0,0,0⟩else if x<0 then⟨1,-x,4,0,true,0,false,false,⟨0,0,0,0⟩,false,0,0,0,0⟩else⟨1,x,4,0,false,0,false,false,⟨0,0,0,0⟩,false,0,0,0,0⟩
def zBJ{l:List Int}{k:Nat}{x:Int}(h:l[k]? =some x):(l.take k).map bt1++[bt1 x]=(l.take (k+1)).map bt1:=by
 rw[jF,h];simp
def zBK{l:List Int}{k:Nat}{x:Int}(h:l[k]? =some x):(l.take k).map wnS++[wnS x]=(l.take (k+1)).map wnS:=by
 rw[jF,h];simp
def zqZ{α β:Type}(f:α->β)(l:List α)(k:Nat):((l.take k).map f).length<=l.length:=by rw[jX,jM];omega
def zu4{α:Type}{l:List α}{k:Nat}{x:α}(h:l[k]? =some x):l.take k++[x]=l.take (k+1):=by rw[jF,h];rfl
def F6:List (List Sg):=[[wnS 3],[wnS 3,wnS 0],[wnS (-3)],[wnS (-3),wnS 0],[wnS 4],[wnS 4,wnS 0]]
def zBL:(decide (wcE mO [bt1 4]=0)&&decide (fmV mO (bt1 4) hAll=F6))=true:=by kernel_rfl
def zBM:(decide (blE mO ([6,4,2,2].map bt1)=0)&&decide (blV mO ([6,4,2,2].map bt1)=[[6].map bt1,[4,2].map bt1,[2].map bt1]))=true:=by kernel_rfl
def zBN:(decide (wisE mO ([4,2,6].map bt1) ([3,4,3].map wnS)=0)&&wisB mO ([4,2,6].map bt1) ([3,4,3].map wnS))=true:=by kernel_rfl
def wrQ(l:List Int)(h:Hb)(w:List Int):Bool:=decide (wrE mO (l.map bt1) h=0)&&decide (wrV mO (l.map bt1) h=w.map wnS)
def zBO:wrQ [6,2,4,6] ⟨false,false,true⟩ [3,4,4,3]=true:=by kernel_rfl
attribute [local irreducible] Pur yA yC Ex X Fn Imp LeV LeB FnO It yH FnW FnOW FnP FnD
attribute [local irreducible] wcE fmV blE blV wisE wisB wrE wrV bt1 wnS
def zb:Fn prog 68 [] (mnA mO):=by
 refine kF func68 ntmps68 (λg w d=>?_);refine gq ?_;refine kL (.one (.cellA rfl rfl rfl rfl ty23 (kC ?_)));all_goals exact zR
def zo:Fn prog 29 [] (hbA hAll):=by
 refine kF func29 ntmps29 (λg w d=>?_);refine gq ?_;refine kL (.one (.cellA rfl rfl rfl rfl ty32 (kC ?_)));all_goals exact zR
def zgN(l:List Bt)(hl:l.length<=4000000000):Fn prog 16 [btsA l] (btsA l):=by
 refine kF func16 ntmps16 (λg w d=>?_);refine gq ?_;refine yD btE [] ?_;refine ya ?_;refine kK ?_;refine yh ?_;refine kE ?_;refine kA (k9 (k:=3) rfl) ?_;refine gq ?_;all_goals rfl
def zbg(a b:List Bt)(hl:a.length<=4000000000):Fn prog 22 [btsA a,btsA b] (.bool (decide (a=b))):=by
 refine kF func22 ntmps22 (λg w d=>?_);refine gd ?_ ?_<;>intro J
 ·have U:decide (a=b)=false:=by rw[jR];intro h;subst h;exact J rfl
  refine gq ?_;all_goals rw[U]
 have T:a.length=b.length:=by omega
 apply yk;apply yf;apply ye;refine yh ?_;apply kB;refine zM (λk=>[(0,btsA a),(1,btsA b),(5,iv (k:Int))]) (λk=>[]) (λk=>k<=a.length/\a.take k=b.take k) a.length (λk I=>?_) (hJ:=by exact⟨by omega,by simp⟩);obtain⟨H,Z⟩:=I;refine gd ?_ ?_<;>intro G
 ·obtain⟨x,hx⟩:∃x,a[k]? =some x:=⟨_,lgg (by omega)⟩;have E:a[(k:Int).toNat]? =some x:=by simpa using hx
  obtain⟨y,V⟩:∃y,b[k]? =some y:=⟨_,lgg (by omega)⟩;have xT:b[(k:Int).toNat]? =some y:=by simpa using V
  refine gq ?_;refine yW [17,18,19,20,21,22,23,24,25] [0,0,3,7,0,0,48,112,255] mo ?_;iterate 8 refine yb ?_
  refine yb ?_ (hs:=by exact zeV (zs1 _ _) inferInstance TyK.h rfl rfl rfl rfl rfl);refine yF ?_;refine gd ?_ ?_<;>intro N
  ·have U:decide (a=b)=false:=by rw[jR];intro h;subst h;rw[hx]at V;injection V with V;exact(by simpa using N:¬x=y) V
   refine gq ?_;all_goals rw[U]
  refine gq ?_;refine yz (k+1) (hJ:=by exact⟨by omega,by rw[←zu4 hx,←zu4 V,Z,(by simpa using N:x=y)]⟩) (hI:=yi)
 ·have U:decide (a=b)=true:=by
   have h1:k=a.length:=by omega
   rw[jU];subst h1;rw[jH,T,jH]at Z;exact Z
  refine gq ?_;all_goals rw[U]
def yR(l:List Int)(hl:l.length<=1000)(hr:∀x∈l,0<=x/\x<=1000):Fn prog 69 [yc l] (btsA (l.map bt1)):=by
 have U:[]=(l.take 0).map bt1:=by simp
 refine kF func69 ntmps69 (λg w d=>?_);apply ye;refine ya ?_;apply yG;refine yh ?_;iterate 2 apply yf
 refine kJ (yI btE 100 3 3 30 rfl rfl) ?_;apply yj;refine yh ?_;apply kB;refine zu (λk=>[(0,yc l),(3,.own 30),(4,iv (k:Int))]) (λk=>[(30,.row btE ((l.take k).map bt1) 100 3)]) l.length (λk G=>?_);refine gd ?_ ?_<;>intro T
 ·obtain⟨x,hx⟩:∃x,l[k]? =some x:=⟨_,lgg (by omega)⟩;have N:l[(k:Int).toNat]? =some x:=by simpa using hx
  have J:=hr x (j6 hx);have Z:=zBJ hx;have V:(l.take k).map bt1++[⟨⟨x/gI x 1,1/gI x 1⟩,false⟩]=(l.take (k+1)).map bt1:=by rw[←Z];unfold bt1;rfl
  have I:=zqZ bt1 l k;refine gc (zfx x 1 (by omega) (by omega)) ?_;refine yD btE [⟨⟨x/gI x 1,1/gI x 1⟩,false⟩] ?_;refine gq ?_;refine yz (k+1) (hI:=yi)
 ·obtain rfl:k=l.length:=by omega
  have H:(l.take l.length).map bt1=l.map bt1:=by rw[jH]
  apply kO;apply ye;refine yO ?_;refine kE ?_;refine kA (k9 (k:=30) rfl) ?_;refine gq ?_;all_goals(exact j5 (λz=>btsA z) H)
set_option maxHeartbeats 1000000 in
def zaG(l:List Int)(hl:l.length<=1000)(hr:∀x∈l,-1000<=x/\x<=1000):Fn prog 70 [yc l] (sgsA (l.map wnS)):=by
 have J:[]=(l.take 0).map wnS:=by simp
 refine kF func70 ntmps70 (λg w d=>?_);apply ye;refine ya ?_;apply yG;refine yh ?_;iterate 2 apply yf
 refine kJ (yI sgE 90 17 3 30 rfl rfl) ?_;apply yj;refine yh ?_;apply kB;refine zu (λk=>[(0,yc l),(3,.own 30),(4,iv (k:Int))]) (λk=>[(30,.row sgE ((l.take k).map wnS) 90 17)]) l.length (λk hk=>?_);refine gd ?_ ?_<;>intro I
 ·obtain⟨x,hx⟩:∃x,l[k]? =some x:=⟨_,lgg (by omega)⟩;have H:l[(k:Int).toNat]? =some x:=by simpa using hx
  have G:=hr x (j6 hx);have Z:=zBK hx;have E:=zqZ wnS l k;refine gd ?_ ?_<;>intro V
  ·have U:wnS x=⟨3,0,0,0,false,0,false,false,⟨0,0,0,0⟩,false,0,0,0,0⟩:=by unfold wnS;rw[j3 V]
   rw[U]at Z;refine gq ?_;refine yD sgE [⟨3,0,0,0,false,0,false,false,⟨0,0,0,0⟩,false,0,0,0,0⟩] ?_;refine gq ?_;refine yz (k+1) (hI:=yi)
  ·have N:=Z;refine gd ?_ ?_<;>intro T
   ·have U:wnS x=⟨1,-x,4,0,true,0,false,false,⟨0,0,0,0⟩,false,0,0,0,0⟩:=by unfold wnS;rw[j4 V,j3 T]
    rw[U]at Z;refine gq ?_;refine yD sgE [⟨1,-x,4,0,true,0,false,false,⟨0,0,0,0⟩,false,0,0,0,0⟩] ?_;refine gq ?_;refine yz (k+1) (hI:=yi)
   ·have U:wnS x=⟨1,x,4,0,false,0,false,false,⟨0,0,0,0⟩,false,0,0,0,0⟩:=by unfold wnS;rw[j4 V,j4 (show¬x<0 by omega)]
    rw[U]at Z;refine gq ?_;refine yD sgE [⟨1,x,4,0,false,0,false,false,⟨0,0,0,0⟩,false,0,0,0,0⟩] ?_;refine gq ?_;refine yz (k+1) (hI:=yi)
 ·obtain rfl:k=l.length:=by omega
  have hV:(l.take l.length).map wnS=l.map wnS:=by rw[jH]
  apply kO;apply ye;refine yO ?_;refine kE ?_;refine kA (k9 (k:=30) rfl) ?_;refine gq ?_;all_goals(exact j5 (λz=>sgsA z) hV)
def zeI(l:List Bt)(h:Hb)(ws:List Int)(hl:l.length<=4000000000)(Z:ws.length<=1000)(hr:∀x∈ws,-1000<=x/\x<=1000)(hv:(wrV mO l h).length<=4000000000):Fn prog 71 [btsA l,hbA h,yc ws] (.bool (decide (wrE mO l h=0)&&decide (wrV mO l h=ws.map wnS))):=by
 refine kF func71 ntmps71 (λg w d=>?_);refine gq ?_;refine yW [7,8,9,10,11,12,13,14,15] [0,0,0,7,15,31,31,63,255] mo ?_;refine yL zb ?_;iterate 2 refine yb ?_
 refine yL (zb3 mO l h hl) ?_;iterate 5 refine yb ?_
 refine yF ?_;apply yG;iterate 2 refine ya ?_
 refine kI 2 ?_;refine gq ?_;refine bA (zaG ws Z hr) ?_;refine bA (zY (wrV mO l h) (ws.map wnS) hv) ?_;refine ge ?_;all_goals exact zR
def zf6(l:List Bt)(h:Hb)(hl:l.length<=4000000000):Fn prog 89 [btsA l,hbA h] (.bool (decide (wrE mO l h=18)&&decide (((wrV mO l h).length:Int)=0))):=by
 refine kF func89 ntmps89 (λg w d=>?_);refine gq ?_;refine yW [5,6,7,8,9,10,11,12,13] [0,0,0,7,15,31,31,63,255] mo ?_;refine yL zb ?_;iterate 2 refine yb ?_
 refine yL (zb3 mO l h hl) ?_;iterate 5 refine yb ?_
 refine yF ?_;apply yG;iterate 2 refine ya ?_
 refine kI 2 ?_;refine yp ?_;iterate 3 refine kG ?_
 refine ge ?_;all_goals exact zR
def zzb:Fn prog 67 [mnA mO,btA (bt1 4),hbA hAll] (.tup [zca F6,iv 0]):=by
 have h:=zfD mO (bt1 4) hAll;have e:=zBL;rw[j7,jU,jU]at e;rw[e.1,e.2]at h;exact h
def zzc:Fn prog 48 [mnA mO,btsA ([6,4,2,2].map bt1)] (.tup [blsA [[6].map bt1,[4,2].map bt1,[2].map bt1],iv 0]):=by
 have h:=zcV mO ([6,4,2,2].map bt1) (by decide);have e:=zBM;rw[j7,jU,jU]at e;rw[e.1,e.2]at h;exact h
def zzd:Fn prog 20 [mnA mO,btsA ([4,2,6].map bt1),sgsA ([3,4,3].map wnS)] (.tup [.bool true,iv 0]):=by
 have h:=zmZ mO ([4,2,6].map bt1) ([3,4,3].map wnS) (by decide) (by decide);have e:=zBN;rw[j7,jU]at e;rw[e.1,e.2]at h;exact h
def zmf{l:List Int}{h:Hb}{w:List Int}(e:wrQ l h w=true)(hl:l.length<=1000)(Z:w.length<=1000)(hr:∀x∈w,-1000<=x/\x<=1000):Fn prog 71 [btsA (l.map bt1),hbA h,yc w] (.bool true):=by
 unfold wrQ at e;have e2:=e;rw[j7,jU,jU]at e2;have c:=zeI (l.map bt1) h w (by rw[jX];omega) Z hr (by rw[e2.2,jX];omega);rw[e]at c;exact c
set_option maxHeartbeats 4000000 in
set_option maxRecDepth 100000 in
def za4:Fn prog 15 [] (.bool true):=by
 have Z:([4].map bt1)[(0:Int).toNat]? =some (bt1 4):=rfl;have V:F6[(5:Int).toNat]? =some [wnS 4,wnS 0]:=rfl;have U:([[6].map bt1,[4,2].map bt1,[2].map bt1]:List (List Bt))[(1:Int).toNat]? =some ([4,2].map bt1):=rfl;refine kF func15 ntmps15 (λg w d=>?_);refine gq ?_;refine yW [1,2,7,8,9,10,11,12,13,14,15,16] [0,0,3,7,15,7,63,127,255,255,511,2047] mo ?_;refine yL zb ?_;refine ChM.step rfl rfl rfl (zwZ (enc:=intE) (l:=[4]) sl46 ty3 ze3) rfl ?_;refine yL (yR [4] (by decide) (by decide)) ?_;iterate 2 refine yb ?_
 refine yL zo ?_;refine yL zzb ?_;iterate 5 refine yb ?_
 refine yF ?_;apply yG;refine yP zb ?_;refine kT (yu (enc:=intE) (l:=[6,4,2,2]) sl46 ty3 ze3 (by decide) rfl rfl rfl rfl (by decide) (by decide) (λ_=>rfl) rfl) rfl rfl ?_;refine yP (yR [6,4,2,2] (by decide) (by decide)) ?_;refine gc zzc ?_;refine yP zb ?_;refine kT (yu (enc:=intE) (l:=[4,2,6]) sl46 ty3 ze3 (by decide) rfl rfl rfl rfl (by decide) (by decide) (λ_=>rfl) rfl) rfl rfl ?_;refine yP (yR [4,2,6] (by decide) (by decide)) ?_;refine kT (yu (enc:=intE) (l:=[3,4,3]) sl46 ty3 ze3 (by decide) rfl rfl rfl rfl (by decide) (by decide) (λ_=>rfl) rfl) rfl rfl ?_;refine yP (zaG [3,4,3] (by decide) (by decide)) ?_;refine gc zzd ?_;refine yW [0,33,34,35,36,37,38,39,40,41,42,43,44,45,46,47,48,49,50,51,52,53,54,55,56,57,58,59,60,61,62,63,64,65,66,67,68,69,70,71,72,73,74,75,76,77,78] [0,1,3,7,15,31,63,127,255,511,1023,255,2303,8191,16383,32767,65535,131071,262143,524287,1048575,2097151,4194303,8388607,16777215,33554431,67108863,134217727,33554431,301989887,1073741823,2147483647,4294967295,8589934591,17179869183,34359738367,68719476735,137438953471,274877906943,549755813887,1099511627775,2199023255551,1099511627775,1099511627775,17592186044415,35184372088831,70368744177663] mo ?_;iterate 3 refine yb ?_
 iterate 3 refine kM ?_
 iterate 2 refine yb ?_
 iterate 3 refine kM ?_
 refine ChM.gs (yu (enc:=intE) (l:=[4,0]) sl46 ty3 ze3 (by decide) rfl rfl rfl rfl (by decide) (by decide) (λ_=>rfl) rfl) ?_;refine kZ (zaG [4,0] (by decide) (by decide)) ?_;refine kZ (zY [wnS 4,wnS 0] ([4,0].map wnS) (by decide)) ?_;iterate 2 refine yb ?_
 iterate 2 refine kM ?_
 iterate 2 refine yb ?_
 iterate 3 refine kM ?_
 iterate 2 refine yb ?_
 iterate 3 refine kM ?_
 refine ChM.gs (yu (enc:=intE) (l:=[4,2]) sl46 ty3 ze3 (by decide) rfl rfl rfl rfl (by decide) (by decide) (λ_=>rfl) rfl) ?_;refine kZ (yR [4,2] (by decide) (by decide)) ?_;refine kZ (zbg ([4,2].map bt1) ([4,2].map bt1) (by decide)) ?_;iterate 2 refine yb ?_
 iterate 2 refine kM ?_
 iterate 2 refine yb ?_
 refine kM ?_;iterate 2 refine yb ?_
 refine ChM.gs (yu (enc:=intE) (l:=[6,2,4,6]) sl46 ty3 ze3 (by decide) rfl rfl rfl rfl (by decide) (by decide) (λ_=>rfl) rfl) ?_;refine kZ (yR [6,2,4,6] (by decide) (by decide)) ?_;refine kM ?_;refine ChM.gs (yu (enc:=intE) (l:=[3,4,4,3]) sl46 ty3 ze3 (by decide) rfl rfl rfl rfl (by decide) (by decide) (λ_=>rfl) rfl) ?_;refine kZ (zmf zBO (by decide) (by decide) (by decide)) ?_;iterate 2 refine yb ?_
 refine yF ?_;refine gq ?_;all_goals(first|rfl|(simp[F6];done)|simp)
end
section
abbrev h0Hb:Hb:=⟨false,false,false⟩
def bt2r:Bt:=⟨⟨2/gI 2 1,1/gI 2 1⟩,true⟩
def rtS(v:Int):Sg:=⟨2,v,0,0,false,0,false,false,⟨0,0,0,0⟩,false,0,0,0,0⟩
def F2r:List (List Sg):=[[rtS 4],[rtS 4,wnS 0]]
def fmQ(b:Bt)(h:Hb)(F:List (List Sg)):Bool:=decide (wcE mO [b]=0)&&decide (fmV mO b h=F)
def zBP:fmQ (bt1 4) h0Hb [[wnS 3]]=true:=by kernel_rfl
def zBQ:fmQ bt2r hAll F2r=true:=by kernel_rfl
def zBR:fmQ (bt1 5) hAll []=true:=by kernel_rfl
def noQ(l:List Int)(h:Hb):Bool:=decide (wrE mO (l.map bt1) h=18)&&decide (((wrV mO (l.map bt1) h).length:Int)=0)
def zBS:noQ [6,2,4,6] h0Hb=true:=by kernel_rfl
def zBT:noQ [5] hAll=true:=by kernel_rfl
def zBU:wrQ [6,2,4,6] hAll [3,4,-3,3]=true:=by kernel_rfl
def zBV:wrQ [4,2,6] h0Hb [3,4,3]=true:=by kernel_rfl
def zBW:wrQ [3,1,2] hAll [4,0,5,4]=true:=by kernel_rfl
def zBX:wrQ [6,6,2,2,2] h0Hb [3,3,4,4,4]=true:=by kernel_rfl
def zq0{b:Bt}{h:Hb}{F:List (List Sg)}(e:fmQ b h F=true):Fn prog 67 [mnA mO,btA b,hbA h] (.tup [zca F,iv 0]):=by
 have c:=zfD mO b h;unfold fmQ at e;rw[j7,jU,jU]at e;rw[e.1,e.2]at c;exact c
def zu5{l:List Int}{h:Hb}(e:noQ l h=true)(hl:l.length<=1000):Fn prog 89 [btsA (l.map bt1),hbA h] (.bool true):=by
 have c:=zf6 (l.map bt1) h (by rw[jX];omega);unfold noQ at e;rw[e]at c;exact c
attribute [local irreducible] Pur yA yC Ex X Fn Imp LeV LeB FnO It yH FnW FnOW FnP FnD
attribute [local irreducible] wcE fmV wrE wrV bt1 wnS rtS yx mMk
set_option maxHeartbeats 8000000 in
set_option maxRecDepth 100000 in
def zdr:Fn prog 26 [] (.bool true):=by
 have V:([4].map bt1)[(0:Int).toNat]? =some (bt1 4):=rfl;have U:([5].map bt1)[(0:Int).toNat]? =some (bt1 5):=rfl;have T:([[wnS 3]]:List (List Sg))[(0:Int).toNat]? =some [wnS 3]:=rfl;have N:F2r[(1:Int).toNat]? =some [rtS 4,wnS 0]:=rfl;have J:=zfx 2 1 (by decide) (by decide);refine kF func26 ntmps26 (λg w d=>?_);refine gq ?_;refine yP zb ?_;refine kT (yu (enc:=intE) (l:=[4]) sl46 ty3 ze3 (by decide) rfl rfl rfl rfl (by decide) (by decide) (λ_=>rfl) rfl) rfl rfl ?_;refine gc (yR [4] (by decide) (by decide)) ?_;refine gc (zq0 zBP) ?_;refine yP zb ?_;refine gc J ?_;refine yP zo ?_;refine gc (zq0 zBQ) ?_;refine yW [5,6,26,27,28,29,30,31,32,33,34,35] [0,0,3,7,15,7,63,127,255,255,511,2047] mo ?_;refine yL zb ?_;refine ChM.step rfl rfl rfl (zwZ (enc:=intE) (l:=[5]) sl46 ty3 ze3) rfl ?_;refine yL (yR [5] (by decide) (by decide)) ?_;iterate 2 refine yb ?_
 refine yL zo ?_;refine yL (zq0 zBR) ?_;iterate 5 refine yb ?_
 refine yF ?_;refine gq ?_;refine yW [36,37,38,39,40,41,42,43,44,45,46,47,48,49,50,51,52,53,54,55,56,57,58,59,60,61,62,63,64,65,66,67,68,69,70,71,72,73,74,75,76] [0,1,3,7,15,31,63,127,255,511,1023,255,2303,8191,16383,32767,65535,131071,262143,524287,1048575,2097151,4194303,8388607,16777215,33554431,67108863,134217727,268435455,536870911,1073741823,2147483647,4294967295,8589934591,17179869183,34359738367,68719476735,137438953471,274877906943,549755813887,1099511627775] mo ?_;iterate 3 refine yb ?_
 iterate 3 refine kM ?_
 iterate 2 refine yb ?_
 iterate 3 refine kM ?_
 refine ChM.gs (yu (enc:=intE) (l:=[3]) sl46 ty3 ze3 (by decide) rfl rfl rfl rfl (by decide) (by decide) (λ_=>rfl) rfl) ?_;refine kZ (zaG [3] (by decide) (by decide)) ?_;refine kZ (zY [wnS 3] ([3].map wnS) (by decide)) ?_;refine kM ?_;iterate 2 refine yb ?_
 iterate 2 refine kM ?_
 iterate 2 refine yb ?_
 iterate 3 refine kM ?_
 iterate 2 refine yb ?_
 iterate 5 refine kM ?_
 iterate 2 refine yb ?_
 iterate 2 refine kM ?_
 iterate 2 refine yb ?_
 iterate 3 refine kM ?_
 refine yb ?_;refine yF ?_;refine gd ?_ ?_<;>intro Z
 ·simp[F2r]at Z
 refine gq ?_;refine kT (yu (enc:=intE) (l:=[6,2,4,6]) sl46 ty3 ze3 (by decide) rfl rfl rfl rfl (by decide) (by decide) (λ_=>rfl) rfl) rfl rfl ?_;refine gc (yR [6,2,4,6] (by decide) (by decide)) ?_;refine yP (zu5 zBS (by decide)) ?_;refine ya ?_;refine yS rfl rfl rfl ?_;refine kT (yu (enc:=intE) (l:=[6,2,4,6]) sl46 ty3 ze3 (by decide) rfl rfl rfl rfl (by decide) (by decide) (λ_=>rfl) rfl) rfl rfl ?_;refine yS rfl rfl rfl ?_;refine yP (yR [6,2,4,6] (by decide) (by decide)) ?_;refine yS rfl rfl rfl ?_;refine yP zo ?_;refine yS rfl rfl rfl ?_;refine kT (yu (enc:=intE) (l:=[3,4,-3,3]) sl46 ty3 ze3 (by decide) rfl rfl rfl rfl (by decide) (by decide) (λ_=>rfl) rfl) rfl rfl ?_;refine yS rfl rfl rfl ?_;refine yP (zmf zBU (by decide) (by decide) (by decide)) ?_;iterate 2 refine ya ?_
 refine yS rfl rfl rfl ?_;refine kT (yu (enc:=intE) (l:=[4,2,6]) sl46 ty3 ze3 (by decide) rfl rfl rfl rfl (by decide) (by decide) (λ_=>rfl) rfl) rfl rfl ?_;refine yS rfl rfl rfl ?_;refine yP (yR [4,2,6] (by decide) (by decide)) ?_;refine yS rfl rfl rfl ?_;refine ya ?_;refine yS rfl rfl rfl ?_;refine kT (yu (enc:=intE) (l:=[3,4,3]) sl46 ty3 ze3 (by decide) rfl rfl rfl rfl (by decide) (by decide) (λ_=>rfl) rfl) rfl rfl ?_;refine yS rfl rfl rfl ?_;refine gc (zmf zBV (by decide) (by decide) (by decide)) ?_;refine yP za4 ?_;refine ya ?_;refine yS rfl rfl rfl ?_;iterate 3 refine ya ?_
 refine yS rfl rfl rfl ?_;refine kT (yu (enc:=intE) (l:=[3,1,2]) sl46 ty3 ze3 (by decide) rfl rfl rfl rfl (by decide) (by decide) (λ_=>rfl) rfl) rfl rfl ?_;refine yS rfl rfl rfl ?_;refine yP (yR [3,1,2] (by decide) (by decide)) ?_;refine yS rfl rfl rfl ?_;refine yP zo ?_;refine yS rfl rfl rfl ?_;refine kT (yu (enc:=intE) (l:=[4,0,5,4]) sl46 ty3 ze3 (by decide) rfl rfl rfl rfl (by decide) (by decide) (λ_=>rfl) rfl) rfl rfl ?_;refine yS rfl rfl rfl ?_;refine yP (zmf zBW (by decide) (by decide) (by decide)) ?_;iterate 2 refine ya ?_
 refine yS rfl rfl rfl ?_;refine kT (yu (enc:=intE) (l:=[5]) sl46 ty3 ze3 (by decide) rfl rfl rfl rfl (by decide) (by decide) (λ_=>rfl) rfl) rfl rfl ?_;refine yS rfl rfl rfl ?_;refine yP (yR [5] (by decide) (by decide)) ?_;refine yS rfl rfl rfl ?_;refine yP zo ?_;refine yS rfl rfl rfl ?_;refine yP (zu5 zBT (by decide)) ?_;iterate 2 refine ya ?_
 refine yS rfl rfl rfl ?_;refine kT (yu (enc:=intE) (l:=[6,6,2,2,2]) sl46 ty3 ze3 (by decide) rfl rfl rfl rfl (by decide) (by decide) (λ_=>rfl) rfl) rfl rfl ?_;refine yS rfl rfl rfl ?_;refine yP (yR [6,6,2,2,2] (by decide) (by decide)) ?_;refine yS rfl rfl rfl ?_;refine ya ?_;refine yS rfl rfl rfl ?_;refine kT (yu (enc:=intE) (l:=[3,3,4,4,4]) sl46 ty3 ze3 (by decide) rfl rfl rfl rfl (by decide) (by decide) (λ_=>rfl) rfl) rfl rfl ?_;refine yS rfl rfl rfl ?_;refine gc (zmf zBX (by decide) (by decide) (by decide)) ?_;all_goals(first|rfl|simp)
end
section
def hbN(n:Int):Hb:=⟨!decide (andI n 4=0),!decide (andI n 2=0),!decide (andI n 1=0)⟩
def zbV(D:List Tm)(R:List Bool):List Bt:=List.zipWith Bt.mk D R
def zze(D:List Tm):[]=zbV D []:=by unfold zbV;simp
def zu6:∀{R:List Bool}{D:List Tm}{t:Tm}{r:Bool},D[R.length]? =some t->zbV D R++[⟨t,r⟩]=zbV D (R++[r])
 |[],D,t,r,h=>by
  cases D with
  |nil=>simp at h
  |cons x D=>simp at h;subst h;simp[zbV]
 |y::R,D,t,r,h=>by
  cases D with
  |nil=>simp at h
  |cons x D=>
   have:=zu6 (R:=R) (D:=D) (t:=t) (r:=r) (by simpa using h);unfold zbV at*
   simp only[List.zipWith_cons_cons,uB,this]
def zle(D:List Tm)(R:List Bool)(h:R.length<=D.length):(zbV D R).length=R.length:=by unfold zbV;rw[List.length_zipWith];omega
def zm7(l:List Sg)(k:Nat):(rsL (l.take k)).length<=(rsL l).length:=by
 have:l.take k++l.drop k=l:=wD k l;rw[←this];unfold rsL;simp[wD];have Z:(l.filter λs=>!decide (s.Kind=3))=((l.take k).filter λs=>!decide (s.Kind=3))++((l.drop k).filter λs=>!decide (s.Kind=3)):=by rw[←wX,wD]
 rw[Z,jE];omega
def zq1{m:Mn}:∀(L:List Int)(l:List Ite)(C:List Int),(lvF m L l C).2.2=0->(lvF m L l C).2.1.length=l.length
 |[],l,C,_=>rfl
 |k::r,l,C,h0=>by
  unfold lvF at h0⊢;split at h0
  ·rename_i h;rw[j3 h];have:=zq1 (m:=m) r (apV m k l (cuV m k l)) (C++cuV m k l) h0;rw[zkD (zlU h)]at this;exact this
  ·rename_i h;exact absurd h0 h
def zwK{m:Mn}{l:List Ite}(h:leE m l=0):(leI m l).length=l.length:=by
 unfold leI;rw[j3 h];unfold leE at h;split at h
 ·split at h
  ·exact zq1 _ _ _ h
  ·rename_i Z;exact absurd h Z
 ·rename_i Z;exact absurd h Z
def zlf(l:List Sg):∀k,ntN l k=(rsL (l.take k)).length
 |0=>by unfold rsL;rfl
 |k+1=>by
  unfold ntN;cases h:l[k]? with
  |none=>
   have V:=List.getElem?_eq_none_iff.1 h;rw[jY (by omega:l.length<=k+1),zlf l k,jY V]
  |some s=>
   by_cases Z:s.Kind=3
   ·show(if s.Kind=3 then ntN l k else ntN l k+1)=_;rw[j3 Z,zlf l k,zla h Z]
   ·show(if s.Kind=3 then ntN l k else ntN l k+1)=_;rw[j4 Z,zlf l k,←zlb h Z,jE];rfl
def zq2{m:Mn}{l:List Sg}(h:rdE m l=0):(rdV m l).Durs.length=(rsL l).length:=by
 have Z:ckD m l=0:=by
  apply wI;intro V;unfold rdE at h;rw[j4 V]at h;exact V h
 have he:leE m (rdI m l)=0:=by unfold rdE at h;rw[j3 Z]at h;exact h
 unfold rdV;rw[j3 h];show((leI m (rdI m l)).map _).length=_;rw[jX,zwK he];unfold rdI;rw[zmI (zpI Z),zih,zlf,jH]
def bsV(m:Mn)(l:List Sg):List Bt:=if rdE m l=0 then zbV (rdV m l).Durs (rsL l)else[]
attribute [local irreducible] Pur yA yC Ex X Fn Imp LeV LeB FnO It yH FnW FnOW FnP FnD
attribute [local irreducible] wcE btF ckT ckM ckD frV wcnE wcnV cnP chV durB rdE rdV rsL wisE wisB zbV andI
end
end Go.Rse
namespace Go.Rse
open Go Go.RowKit Go.Proofs.Tryz
section
variable{P:Program}{C:Ctx}{st:St}{ty:TypeId}{Q:Exit->St->Prop}
end
end Go.Rse
namespace Go.Rse
open Go Go.Proofs Go.Proofs.Tryz
section
attribute [local irreducible] Pur yA yC Ex X Fn Imp LeV LeB FnO It yH FnW FnOW FnP FnD
end
section
def wuL:List (List (List Sg))->List Sg->List (List Sg)
 |[],r=>[r]
 |f::F,r=>f.flatMap λx=>wuL F (r++x)
attribute [local irreducible] Pur yA yC Ex X Fn Imp LeV LeB FnO It yH FnW FnOW FnP FnD
attribute [local irreducible] wuL
end
section
def fmL(m:Mn)(l:List Bt)(h:Hb):List (List (List Sg)):=l.map λb=>fmV m b h
def wyL(m:Mn)(l:List Bt)(h:Hb):List (List Sg):=(wuL (fmL m l h) []).filter λx=>reQ m x (durB l)
def wyX(m:Mn)(l:List Bt)(h:Hb):List (List AV):=(wyL m l h).map λx=>[sgsA x]
attribute [local irreducible] Pur yA yC Ex X Fn Imp LeV LeB FnO It yH FnW FnOW FnP FnD
attribute [local irreducible] wuL wyX wyL fmL fmV durB wcE wcnE wcnV rdE rdV
end
section
attribute [local irreducible] Pur yA yC Ex X Fn Imp LeV LeB FnO It yH FnW FnOW FnP FnD
attribute [local irreducible] wuL wyX wyL fmL fmV durB wcE wcnE wcnV rdE rdV
end
section
attribute [local irreducible] Pur yA yC Ex X Fn Imp LeV LeB FnO It yH FnW FnOW FnP FnD
attribute [local irreducible] wcE wcnE wcnV rdE rdV bsV ckD orV cmpI
end
section
def wq(m:Mn)(z:List Bt)(v:Int):Bool:=decide (¬(wyX m z (hbN v)).length=0)
def hv(m:Mn)(z:List Bt)(n v:Nat):Bool:=decide (v<n)&&wq m z (v:Int)
attribute [local irreducible] Pur yA yC Ex X Fn Imp LeV LeB FnO It yH FnW FnOW FnP FnD
attribute [local irreducible] hbN wcE wcnE wcnV wq hv wyX andI
end
section
abbrev dtS:Sg:=⟨3,0,0,0,false,0,false,false,⟨0,0,0,0⟩,false,0,0,0,0⟩
attribute [local irreducible] Pur yA yC Ex X Fn Imp LeV LeB FnO It yH FnW FnOW FnP FnD
attribute [local irreducible] wcE wcnE rdE rdV bsV
end
section
attribute [local irreducible] Pur yA yC Ex X Fn Imp LeV LeB FnO It yH FnW FnOW FnP FnD
attribute [local irreducible] hbN wcnE
end
section
end
section
attribute [local irreducible] Pur yA yC Ex X Fn Imp LeV LeB FnO It yH FnW FnOW FnP FnD
attribute [local irreducible] wcnE gI
end
section
attribute [local irreducible] Pur yA yC Ex X Fn Imp LeV LeB FnO It yH FnW FnOW FnP FnD
attribute [local irreducible] wcnE gI rdE bsV
end
end Go.Rse
