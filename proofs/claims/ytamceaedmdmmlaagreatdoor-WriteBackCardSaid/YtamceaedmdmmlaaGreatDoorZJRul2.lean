/-
  Walks.
-/
import Derived.Test.YtamceaedmdmmlaaGreatDoorZJRul1
set_option linter.all false
set_option maxHeartbeats 2000000
namespace Go.Rse
open Go Go.Proofs Go.Proofs.Tryz
attribute [local irreducible] Pur yy yz Ex X Fn Imp LeV LeB FnO It yH FnW FnOW
section
def zyi{l:List Int}{k:Nat}{x y:Int}(hx:l[k]? =some x)(h:y∉l.take k)(Z:¬x=y):y∉l.take (k+1):=by
 rw[jG,hx];intro hm;rcases jY.1 hm with hm|hm
 ·exact h hm
 ·simp at hm;exact Z hm.symm
def zt2{s:Sgm}{A:List Int}(h:(chF s A).isSome=true):chF s A=some ((chF s A).getD 0):=by
 cases Z:chF s A with
 |none=>rw[Z]at h;cases h
 |some c=>rfl
def zyj{s:Sgm}{A:List Int}{x:Int}(e:x=(chF s A).getD (-1))(h:x<0):chF s A=none:=by
 cases Z:chF s A with
 |none=>rfl
 |some c=>have:=zq4 Z;rw[Z]at e;rw[e]at h;exact absurd (show c<0 from h) (by omega)
def zyk{s:Sgm}{A:List Int}{x:Int}(e:x=(chF s A).getD (-1))(h:0<=x):chF s A=some x:=by
 cases Z:chF s A with
 |none=>rw[Z]at e;subst e;exact absurd h (by decide)
 |some c=>rw[Z]at e;subst e;rfl
attribute [local irreducible] stK okJ alK alQ segV segE unT muF muI chF wnL wdF cuE cuV cuO mdJ
def zfH(m:Mn)(k:Int)(l:List Ite)(h0:-9223372036854775808<=k)(h1:k<=9223372036854775807)(hl:l.length<=1000000):Fn prog 159 [mnA m,iv k,itsA l] (.tup [yc (cuV m k l),iv (cuE m k l)]):=by
 have x2:=zaP m k l;refine kR func159 ntmps159 (λg w d=>?_);refine gc (zbX m k l h0 h1 hl) ?_;refine gd ?_ ?_<;>intro N
 ·have J:=zAV N;obtain⟨hE,V⟩:=J;apply ye;refine yC ?_;refine kQ ?_;refine kM (yd (ts:=[(6,yc []),(7,iv (segE m k l))]) (hs:=[])) ?_;refine yl ?_ ?_;all_goals(first|exact zE hE|exact zE V|exact j9 (λz=>yc z) V|exact j9 (λz=>AV.int .i64 z) hE.symm|(with_reducible rfl))
 have U:segE m k l=0:=by omega
 have x1:[]=muF m k l 0:=zFe.symm;apply yk;apply ye;refine yj ?_;iterate 2 apply yh
 refine kT (yG intE 3 1 10 5 rfl rfl) ?_;apply yf;refine yC ?_;apply kP;refine zW (λn=>[(1,iv k),(2,itsA l),(3,.ptr 3 0 0 0),(10,.own 5),(27,smsA (segV m k l)),(28,iv (segV m k l).length),(29,iv (n:Int))]) (λn=>[(3,.box (mnE m) 27),(5,.row intE (muF m k l n) 3 1)]) (λn=>n<=(segV m k l).length/\muI m k l n=true) ((segV m k l).length) (λn hk=>?_) (hJ:=by exact⟨by omega,zwu⟩);obtain⟨x0,Z⟩:=hk;refine gd ?_ ?_<;>intro w9
 ·have H:=@getX _ (segV m k l) n (by omega);obtain⟨s,hs,w2⟩:=H;have G:=zeu m k l s (j8 hs);have v9:=zi0 Z;have v8:=zoY (unT m k) k (segV m k l) l (muF m k l n) (muF m k l n).length;refine gq ?_;refine bE (zoX (stF:=⟨[(34,mnA m),(35,iv k),(36,itsA l),(37,yc (muF m k l n))],[]⟩) 38 ((kL (k:=5) rfl).trans yd) (zgN m k l (muF m k l n) h0 h1 (by omega) (by omega) (hE:=U) (hX:=by simp;omega) (hok:=zwv Z) (hN:=zeu m k l) (hMS:=by omega))) rfl rfl ?_;refine gd ?_ ?_<;>intro E
  ·exact absurd rfl E
  apply yk;apply yh;refine kT (kL (k:=38) rfl) ?_;refine gc (zj1 s (akF m k l n) G (by unfold akF;omega)) ?_;refine gd ?_ ?_<;>intro T
  ·have hC:chF s (akF m k l n)=none:=by first|exact T|simpa using T
   have xT:=zAW U Z hs hC;obtain⟨hE,V⟩:=xT;apply ye;refine yQ ?_;refine kQ ?_;refine kM (yd (ts:=[(6,yc []),(7,iv 14)]) (hs:=[])) ?_;refine yl ?_ ?_;all_goals(first|exact zE hE|exact zE V|exact j9 (λz=>yc z) V|exact j9 (λz=>AV.int .i64 z) hE.symm|(with_reducible rfl))
  have hC:=zt2 T;have x4:=zAU Z hs hC;obtain⟨hI,v5⟩:=x4;refine gq ?_;refine yD intE [_] ?_;refine gq ?_;refine yu (n+1) (hJ:=by exact⟨by omega,hI⟩) (hI:=yg)
 ·have hn:n=(segV m k l).length:=by omega
  have x3:=zrF U Z hn;obtain⟨hE,V⟩:=x3;apply bA;apply ye;refine yC ?_;refine kQ ?_;refine kM (kL (k:=5) rfl) ?_;refine yl ?_ ?_;all_goals(first|exact zE hE|exact zE V|exact j9 (λz=>yc z) V|exact j9 (λz=>AV.int .i64 z) hE.symm|(with_reducible rfl))
def zhs(l:List Int)(x:Int)(hl:l.length<=4000000000):Fn prog 209 [yc l,iv x] (.bool (decide (x∈l))):=by
 refine kR func209 ntmps209 (λg w d=>?_);apply ye;refine yj ?_;apply yh;apply ye;refine yj ?_;apply kP;refine zW (λk=>[(0,yc l),(1,iv x),(5,iv (k:Int))]) (λk=>[]) (λk=>k<=l.length/\x∉l.take k) l.length (λk hk=>?_) (hJ:=by exact⟨by omega,by simp⟩) (h0:=yd);obtain⟨J,Z⟩:=hk;refine gd ?_ ?_<;>intro H
 ·have U:=@getX _ l k (by omega);obtain⟨y,N,G⟩:=U;refine gd ?_ ?_<;>intro V
  ·have hE:decide (x∈l)=true:=by rw[←V];exact jJ (j8 N)
   refine gq ?_;all_goals rw[hE]
  refine gq ?_;refine yu (k+1) (hJ:=by exact⟨by omega,zyi N Z V⟩)
 ·have T:k=l.length:=by omega
  have hE:decide (x∈l)=false:=by rw[T,jK]at Z;exact jH Z
  refine gq ?_;all_goals rw[hE]
def zeD(s:Sgm)(hN:0<=s.Count.N):Fn prog 208 [smA s] (yc (wnL s)):=by
 refine kR func208 ntmps208 (λg w d=>?_);refine gd ?_ ?_<;>intro Z
 ·apply ye;refine yD intE [_,_] ?_;refine yj ?_;refine kQ ?_;refine kM (kL (k:=11) rfl) ?_;refine gq ?_;all_goals(first|(unfold wnL;simp_all;done)|(unfold wnL;simp_all;rfl))
 refine gd ?_ ?_<;>intro V
 ·apply ye;refine yD intE [_] ?_;refine yj ?_;refine kQ ?_;refine kM (kL (k:=15) rfl) ?_;refine gq ?_;all_goals(first|(unfold wnL;simp_all;done)|(unfold wnL;simp_all;rfl))
 refine gd ?_ ?_<;>intro U
 ·apply ye;refine yD intE [_,_] ?_;refine yj ?_;refine kQ ?_;refine kM (kL (k:=19) rfl) ?_;refine gq ?_;all_goals(first|(unfold wnL;simp_all;done)|(unfold wnL;simp_all;rfl))
 refine gd ?_ ?_<;>intro T
 ·apply ye;refine yD intE [_,_] ?_;refine yj ?_;refine kQ ?_;refine kM (kL (k:=25) rfl) ?_;refine gq ?_;all_goals(first|(unfold wnL;simp_all;done)|(unfold wnL;simp_all;rfl))
 refine gq ?_;refine yD intE [_,_] ?_;refine yj ?_;refine kQ ?_;refine kM (kL (k:=26) rfl) ?_;refine gq ?_;all_goals(first|(unfold wnL;simp_all;done)|(unfold wnL;simp_all;rfl))
def zeE(m:Mn)(k:Int)(l:List Ite)(h0:-9223372036854775808<=k)(h1:k<=9223372036854775807)(hl:l.length<=400000):Fn prog 141 [mnA m,iv k,itsA l] (.tup [yc (cuV m k l),iv (cuE m k l)]):=by
 have x0:=zaP m k l;refine kR func141 ntmps141 (λg w d=>?_);refine gc (zaC m k l h0 h1 (by omega)) ?_;refine gd ?_ ?_<;>intro G
 ·have E:=zAV G;obtain⟨hE,V⟩:=E;apply ye;refine yC ?_;refine kQ ?_;refine kM (yd (ts:=[(6,yc []),(7,iv (segE m k l))]) (hs:=[])) ?_;refine yl ?_ ?_;all_goals(first|exact zE hE|exact zE V|exact j9 (λz=>yc z) V|exact j9 (λz=>AV.int .i64 z) hE.symm|(with_reducible rfl))
 have U:segE m k l=0:=by omega
 have w9:[]=muF m k l 0:=zFe.symm;apply yk;apply ye;refine yj ?_;iterate 2 apply yh
 refine kT (yG intE 3 1 10 5 rfl rfl) ?_;apply yf;refine yj ?_;apply kP;refine zW (λn=>[(1,iv k),(2,itsA l),(3,.ptr 3 0 0 0),(8,smsA (segV m k l)),(10,.own 5),(11,iv (n:Int))]) (λn=>[(3,.box (mnE m) 27),(5,.row intE (muF m k l n) 3 1)]) (λn=>n<=(segV m k l).length/\muI m k l n=true) ((segV m k l).length) (λn hk=>?_) (hJ:=by exact⟨by omega,zwu⟩);obtain⟨w2,Z⟩:=hk;refine gd ?_ ?_<;>intro v9
 ·have xT:=@getX _ (segV m k l) n (by omega);obtain⟨s,hs,v8⟩:=xT;have x4:=zeu m k l s (j8 hs);have v5:=zi0 Z;have v4:=zoY (unT m k) k (segV m k l) l (muF m k l n) (muF m k l n).length;have v3:=zyh s;have v2:-1=wdF (wnL s) (akF m k l n) 0:=(zEw _ _).symm;have v1:((wnL s).length:Int)-1=((wnL s).length:Int)-1-((0:Nat):Int):=by omega
  refine gq ?_;refine bE (zoX (stF:=⟨[(34,mnA m),(35,iv k),(36,itsA l),(37,yc (muF m k l n))],[]⟩) 38 ((kL (k:=5) rfl).trans yd) (zdF m k l (muF m k l n) h0 h1 (by omega) (by omega) (hE:=U) (hX:=by simp;omega) (hok:=zwv Z) (hN:=zeu m k l) (hMS:=by omega))) rfl rfl ?_;iterate 2 refine ya ?_
  refine yC ?_;apply yh;refine kT (kL (k:=38) rfl) ?_;refine gq ?_;refine yR (zeD s x4) ?_;refine ya ?_;apply yE;refine yj ?_;apply yh;apply ye;refine ya ?_;refine yC ?_;apply kP;refine zm (λi=>[(1,iv k),(2,itsA l),(3,.ptr 3 0 0 0),(8,smsA (segV m k l)),(10,.own 5),(11,iv (n:Int)),(12,yc (akF m k l n)),(14,yc (wnL s)),(15,iv (wdF (wnL s) (akF m k l n) i)),(16,iv (((wnL s).length:Int)-1-(i:Int)))]) (λi=>[(3,.box (mnE m) 27),(5,.row intE (muF m k l n) 3 1)]) ((wnL s).length) (λi hk=>?_);refine gd ?_ ?_<;>intro v0
  ·obtain⟨x,hx⟩:∃x,(wnL s)[(wnL s).length-1-i]? =some x:=⟨_,lgg (by omega)⟩;have u4:(wnL s)[(((wnL s).length:Int)-1-(i:Int)).toNat]? =some x:=by rw[show(((wnL s).length:Int)-1-(i:Int)).toNat=(wnL s).length-1-i by omega];exact hx
   have T:=zEx (A:=akF m k l n) (show i<(wnL s).length by omega) hx;have u3:((wnL s).length:Int)-1-(i:Int)-1=((wnL s).length:Int)-1-((i+1:Nat):Int):=by omega
   refine gc (zhs (akF m k l n) x (by unfold akF;omega)) ?_;refine gd ?_ ?_<;>intro N
   ·have J:x=wdF (wnL s) (akF m k l n) (i+1):=by rw[T,j6 N]
    refine gq ?_;refine yu (i+1) (hI:=yg)
   ·have J:wdF (wnL s) (akF m k l n) i=wdF (wnL s) (akF m k l n) (i+1):=by rw[T,j7 N]
    refine gq ?_;refine yu (i+1) (hI:=yg)
  ·have hi:i=(wnL s).length:=by omega
   have hW:=zyg (A:=akF m k l n) hi;refine gd ?_ ?_<;>intro H
   ·have hC:=zyj hW H;have x3:=zAW U Z hs hC;obtain⟨hE,V⟩:=x3;apply ye;refine yQ ?_;refine kQ ?_;refine kM (yd (ts:=[(6,yc []),(7,iv 14)]) (hs:=[])) ?_;refine yl ?_ ?_;all_goals(first|exact zE hE|exact zE V|exact j9 (λz=>yc z) V|exact j9 (λz=>AV.int .i64 z) hE.symm|(with_reducible rfl))
   have hC:=zyk hW H;have x2:=zAU Z hs hC;obtain⟨hI,T⟩:=x2;refine gq ?_;refine yD intE [_] ?_;refine gq ?_;refine yu (n+1) (hJ:=by exact⟨by omega,hI⟩) (hI:=yg)
 ·have hn:n=(segV m k l).length:=by omega
  have x1:=zrF U Z hn;obtain⟨hE,V⟩:=x1;apply bA;apply ye;refine yC ?_;refine kQ ?_;refine kM (kL (k:=5) rfl) ?_;refine yl ?_ ?_;all_goals(first|exact zE hE|exact zE V|exact j9 (λz=>yc z) V|exact j9 (λz=>AV.int .i64 z) hE.symm|(with_reducible rfl))
end
section
def lvN(m:Mn)(L:List Int)(l:List Ite):Nat->List Int×List Ite
 |0=>([],l)
 |n+1=>((lvN m L l n).1++cuV m (L.getD n 0) (lvN m L l n).2,apV m (L.getD n 0) (lvN m L l n).2 (cuV m (L.getD n 0) (lvN m L l n).2))
structure LvJ(m:Mn)(L:List Int)(l:List Ite)(n:Nat):Prop where
 le:n<=L.length
 go:lvF m L l []=lvF m (L.drop n) (lvN m L l n).2 (lvN m L l n).1
 len:(lvN m L l n).2.length=l.length
 cho:(lvN m L l n).1.length<=n*(2*l.length+2)
def zrG(m:Mn)(L:List Int)(l:List Ite):LvJ m L l 0:=⟨by omega,rfl,rfl,by simp[lvN]⟩
def zie{m:Mn}{k:Int}{l:List Ite}:(cuV m k l).length<=2*l.length+2:=by
 by_cases h:cuE m k l=0
 ·obtain⟨h0,h1⟩:=zwg h;unfold cuO at h1;have:=(ziS h1).1;have:=zaP m k l;omega
 ·unfold cuV;rw[j7 h];simp
def zlG{m:Mn}{k:Int}{l:List Ite}{M:List Int}(h:apE m k l M=0):(apV m k l M).length=l.length:=by
 unfold apV;rw[j6 h];exact zb7 _ _ _ _ _
def zlH{m:Mn}{L:List Int}{l:List Ite}{n:Nat}{k:Int}(hk:L[n]? =some k):(lvN m L l n).1++cuV m k (lvN m L l n).2=(lvN m L l (n+1)).1/\apV m k (lvN m L l n).2 (cuV m k (lvN m L l n).2)=(lvN m L l (n+1)).2:=by
 have e:L.getD n 0=k:=by rw[jD,hk];rfl
 show _=((lvN m L l n).1++cuV m (L.getD n 0) (lvN m L l n).2)/\_=apV m (L.getD n 0) (lvN m L l n).2 (cuV m (L.getD n 0) (lvN m L l n).2);rw[e];exact⟨rfl,rfl⟩
def LvJ.s{m:Mn}{L:List Int}{l:List Ite}{n:Nat}{k:Int}(h:LvJ m L l n)(hk:L[n]? =some k)(he:cuE m k (lvN m L l n).2=0):LvJ m L l (n+1):=by
 obtain⟨e1,e2⟩:=zlH (m:=m) (l:=l) hk;have Z:=(j5.1 hk).1;refine⟨by omega,?_,?_,?_⟩
 ·rw[h.go,zmK hk,j6 he,e1,e2]
 ·rw[←e2,zlG (zkn he),h.len]
 ·rw[←e1,jC,Nat.add_mul,kF];have:=h.cho;have:=zie (m:=m) (k:=k) (l:=(lvN m L l n).2);rw[h.len]at this;omega
section
variable{m:Mn}{l:List Ite}{n:Nat}{k:Int}
def zyl(h:¬ckM m=0):leE m l=ckM m/\leC m l=[]/\leI m l=[]:=by
 have:leE m l=ckM m:=by unfold leE;rw[j7 h]
 refine⟨this,?_,?_⟩
 ·unfold leC;rw[this,j7 h]
 ·unfold leI;rw[this,j7 h]
def zym(h:ckM m=0)(Z:¬ckIE l=0):leE m l=ckIE l/\leC m l=[]/\leI m l=[]:=by
 have:leE m l=ckIE l:=by unfold leE;rw[j6 h,j7 Z]
 refine⟨this,?_,?_⟩
 ·unfold leC;rw[this,j7 Z]
 ·unfold leI;rw[this,j7 Z]
def zyn(h:ckM m=0)(Z:ckIE l=0)(hJ:LvJ m (perfL m) l n)(hk:(perfL m)[n]? =some k)(he:¬cuE m k (lvN m (perfL m) l n).2=0):leE m l=cuE m k (lvN m (perfL m) l n).2/\leC m l=[]/\leI m l=[]:=by
 have:leE m l=cuE m k (lvN m (perfL m) l n).2:=by unfold leE;rw[j6 h,j6 Z,hJ.go,zmK hk,j7 he]
 refine⟨this,?_,?_⟩
 ·unfold leC;rw[this,j7 he]
 ·unfold leI;rw[this,j7 he]
def zyo(h:ckM m=0)(Z:ckIE l=0)(hJ:LvJ m (perfL m) l n)(hn:n=(perfL m).length):leE m l=0/\(lvN m (perfL m) l n).1=leC m l/\(lvN m (perfL m) l n).2=leI m l:=by
 have e:lvF m (perfL m) l []=((lvN m (perfL m) l n).1,(lvN m (perfL m) l n).2,0):=by rw[hJ.go,hn,wT];rfl
 have:leE m l=0:=by unfold leE;rw[j6 h,j6 Z,e]
 refine⟨this,?_,?_⟩
 ·unfold leC;rw[this,j6 rfl,e]
 ·unfold leI;rw[this,j6 rfl,e]
def zif(m:Mn):(perfL m).length<=4:=by
 unfold perfL;exact wZ _ _
def zrH(hk:(perfL m)[n]? =some k):1<=k/\k<=4:=by
 have h:=j8 hk;rw[zhk]at h;exact⟨h.1,h.2.1⟩
end
end
section
attribute [local irreducible] cuV cuE apV apE leE leC leI lvN lvF ckM perfL ckIE ckIX
def zeF(m:Mn)(l:List Ite)(hl:l.length<=100000):Fn prog 90 [mnA m,itsA l] (.tup [yc (leC m l),itsA (leI m l),iv (leE m l)]):=by
 have v9:=zif m;refine kR func90 ntmps90 (λg w d=>?_);refine gc (zb9 m) ?_;refine gd ?_ ?_<;>intro J
 ·have H:=zyl (l:=l) J;obtain⟨hE,Z,V⟩:=H;apply ye;refine ya ?_;refine yC ?_;refine kQ ?_;refine kM (yd (ts:=[(4,yc []),(5,itsA []),(6,iv (ckM m))]) (hs:=[])) ?_;refine kY (.many (by decide) (.cons (.tmp rfl (kO ?_)) (.cons (.tmp rfl (kO ?_)) (.cons (.tmp rfl (kO ?_)) .nil))));all_goals(first|exact zE hE|exact zE Z|exact zE V|exact j9 (λz=>yc z) Z|exact j9 (λz=>itsA z) V|exact j9 (λz=>AV.int .i64 z) hE.symm|(with_reducible rfl))
 have hm:ckM m=0:=by omega
 rw[show(if ckM m=0 then perfL m else[])=perfL m from j6 hm];refine gc (zcn l (by omega)) ?_;refine gd ?_ ?_<;>intro G
 ·have E:=zym hm G;obtain⟨hE,Z,V⟩:=E;apply ye;refine ya ?_;refine yC ?_;refine kQ ?_;refine kM (yd (ts:=[(4,yc []),(5,itsA []),(6,iv (ckIE l))]) (hs:=[])) ?_;refine kY (.many (by decide) (.cons (.tmp rfl (kO ?_)) (.cons (.tmp rfl (kO ?_)) (.cons (.tmp rfl (kO ?_)) .nil))));all_goals(first|exact zE hE|exact zE Z|exact zE V|exact j9 (λz=>yc z) Z|exact j9 (λz=>itsA z) V|exact j9 (λz=>AV.int .i64 z) hE.symm|(with_reducible rfl))
 have hi:ckIE l=0:=by omega
 apply yk;apply ye;refine yj ?_;apply yh;refine kT (yG intE 3 1 9 5 rfl rfl) ?_;apply yf;refine yD itE [] ?_;refine ya ?_;refine kV ?_;refine yj ?_;iterate 2 apply yh
 have v8:[]=(lvN m (perfL m) l 0).1:=by unfold lvN;rfl
 have v5:([]:List Ite)++l=(lvN m (perfL m) l 0).2:=by unfold lvN;rfl
 refine kT (st':=⟨[(2,.ptr 2 0 0 0),(7,yc (perfL m)),(9,.own 5),(10,itsA ([]++l))],[(2,.box (mnE m) 27),(5,.row intE [] 3 1)]⟩) ((kL (k:=30) rfl).trans yd) ?_;apply yf;refine yj ?_;apply kP;refine zW (λn=>[(2,.ptr 2 0 0 0),(7,yc (perfL m)),(9,.own 5),(10,itsA (lvN m (perfL m) l n).2),(11,iv (n:Int))]) (λn=>[(2,.box (mnE m) 27),(5,.row intE (lvN m (perfL m) l n).1 3 1)]) (λn=>LvJ m (perfL m) l n) ((perfL m).length) (λn hk=>?_) (hJ:=by exact zrG _ _ _);have hJ:=hk;have v4:=hJ.le;clear hk;refine gd ?_ ?_<;>intro v3
 ·have xT:=@getX _ (perfL m) n (by omega);obtain⟨k,hk,x4⟩:=xT;have v2:=zrH hk;have w2:=hJ.len;have U:=hJ.cho;have v1:n<=4:=by omega
  have T:(lvN m (perfL m) l n).1.length<=5*(2*l.length+2):=jT U (jX _ (by omega));have v0:=zie (m:=m) (k:=k) (l:=(lvN m (perfL m) l n).2);have x3:=zlH (m:=m) (l:=l) hk;obtain⟨u4,u3⟩:=x3;refine gq ?_;refine yW [12,13,39,40,41,42,43,44,45,46,47,48] [0,0,0,6,14,0,63,127,255,255,511,2047] mo ?_;iterate 6 refine yb ?_
  refine yO (zeE m k (lvN m (perfL m) l n).2 (by omega) (by omega) (by omega)) ?_;iterate 5 refine yb ?_
  refine yI ?_;refine gd ?_ ?_<;>intro x2
  ·have x1:=zyn hm hi hJ hk x2;obtain⟨hE,Z,V⟩:=x1;apply ye;refine ya ?_;refine yC ?_;refine kQ ?_;refine kM (yd (ts:=[(4,yc []),(5,itsA []),(6,iv (cuE m k (lvN m (perfL m) l n).2))]) (hs:=[])) ?_;refine kY (.many (by decide) (.cons (.tmp rfl (kO ?_)) (.cons (.tmp rfl (kO ?_)) (.cons (.tmp rfl (kO ?_)) .nil))));all_goals(first|exact zE hE|exact zE Z|exact zE V|exact j9 (λz=>yc z) Z|exact j9 (λz=>itsA z) V|exact j9 (λz=>AV.int .i64 z) hE.symm|(with_reducible rfl))
  have h0:cuE m k (lvN m (perfL m) l n).2=0:=by omega
  have x0:=zkn h0;refine gq ?_;refine bI [⟨0,53,mnA m,[]⟩,⟨1,54,yc (perfL m),[]⟩,⟨2,55,iv (n:Int),[]⟩,⟨3,56,.ept intE k 0,[2,1]⟩,⟨4,57,iv k,[2,1,3]⟩,⟨5,58,itsA (lvN m (perfL m) l n).2,[]⟩,⟨6,59,yc (cuV m k (lvN m (perfL m) l n).2),[]⟩,⟨8,52,.tup [itsA (apV m k (lvN m (perfL m) l n).2 (cuV m k (lvN m (perfL m) l n).2)),iv (apE m k (lvN m (perfL m) l n).2 (cuV m k (lvN m (perfL m) l n).2))],[2,1,3,6,5,4,0,7]⟩,⟨9,61,itsA (apV m k (lvN m (perfL m) l n).2 (cuV m k (lvN m (perfL m) l n).2)),[2,1,3,6,5,4,0,7,8]⟩,⟨10,62,iv (apE m k (lvN m (perfL m) l n).2 (cuV m k (lvN m (perfL m) l n).2)),[2,1,3,6,5,4,0,7,8]⟩] [(7,[2,1,3,6,5,4,0]),(11,[8,6,5,4,3,2,1,0,7,9]),(12,[9,8,7,6,5,4,3,2,1,0,11,10])] (λj=>match j with|0=>⟨[(2,.ptr 2 0 0 0),(7,yc (perfL m)),(9,.own 5),(10,itsA (lvN m (perfL m) l n).2),(11,iv (n:Int)),(12,yc (cuV m k (lvN m (perfL m) l n).2))],[(2,.box (mnE m) 27),(5,.row intE (lvN m (perfL m) l n).1 3 1)]⟩|1=>⟨[(2,.ptr 2 0 0 0),(7,yc (perfL m)),(9,.own 5),(10,itsA (lvN m (perfL m) l n).2),(11,iv (n:Int)),(12,yc (cuV m k (lvN m (perfL m) l n).2)),(60,.tup [itsA (apV m k (lvN m (perfL m) l n).2 (cuV m k (lvN m (perfL m) l n).2)),iv (apE m k (lvN m (perfL m) l n).2 (cuV m k (lvN m (perfL m) l n).2))])],[(2,.box (mnE m) 27),(5,.row intE (lvN m (perfL m) l n).1 3 1)]⟩|2=>⟨[(2,.ptr 2 0 0 0),(7,yc (perfL m)),(9,.own 5),(10,itsA (apV m k (lvN m (perfL m) l n).2 (cuV m k (lvN m (perfL m) l n).2))),(11,iv (n:Int)),(12,yc (cuV m k (lvN m (perfL m) l n).2)),(60,.tup [itsA (apV m k (lvN m (perfL m) l n).2 (cuV m k (lvN m (perfL m) l n).2)),iv (apE m k (lvN m (perfL m) l n).2 (cuV m k (lvN m (perfL m) l n).2))])],[(2,.box (mnE m) 27),(5,.row intE (lvN m (perfL m) l n).1 3 1)]⟩|_=>⟨[(2,.ptr 2 0 0 0),(7,yc (perfL m)),(9,.own 5),(10,itsA (apV m k (lvN m (perfL m) l n).2 (cuV m k (lvN m (perfL m) l n).2))),(11,iv (n:Int)),(12,yc (cuV m k (lvN m (perfL m) l n).2)),(60,.tup [itsA (apV m k (lvN m (perfL m) l n).2 (cuV m k (lvN m (perfL m) l n).2)),iv (apE m k (lvN m (perfL m) l n).2 (cuV m k (lvN m (perfL m) l n).2))]),(13,iv (apE m k (lvN m (perfL m) l n).2 (cuV m k (lvN m (perfL m) l n).2)))],[(2,.box (mnE m) 27),(5,.row intE (lvN m (perfL m) l n).1 3 1)]⟩) mo (by kernel_rfl) (zj (yd)) (λj hj=>?_) (λj c N β hβ=>?_) ?_
  ·rcases j with _|_|_|_|j
   ·(iterate 3 refine⟨.inr ⟨_,rfl,rfl,rfl,rfl,kK yK⟩,?_⟩);refine⟨.inr ⟨_,rfl,rfl,rfl,rfl,kK (zam (enc:=intE) (l:=(perfL m)) (u:=k) rfl rfl SlK.h TyK.h (λ_=>rfl) (by omega) x4)⟩,?_⟩;exact yF
   ·exact yF
   ·exact yF
   ·exact yF
   ·exact absurd (show j+4<=3 from hj) (by omega)
  ·rcases j with _|_|_|j
   ·obtain rfl:(7,[2,1,3,6,5,4,0])=c:=by injection N
    refine yp rfl (yn (st0:=⟨[(53,mnA m),(54,yc (perfL m)),(55,iv (n:Int)),(56,.ept intE k 0),(57,iv k),(58,itsA (lvN m (perfL m) l n).2),(59,yc (cuV m k (lvN m (perfL m) l n).2)),(52,.ifb (β 8) (.tup [itsA (apV m k (lvN m (perfL m) l n).2 (cuV m k (lvN m (perfL m) l n).2)),iv (apE m k (lvN m (perfL m) l n).2 (cuV m k (lvN m (perfL m) l n).2))])),(61,.ifb (β 9) (itsA (apV m k (lvN m (perfL m) l n).2 (cuV m k (lvN m (perfL m) l n).2)))),(62,.ifb (β 10) (iv (apE m k (lvN m (perfL m) l n).2 (cuV m k (lvN m (perfL m) l n).2)))),(2,.ptr 2 0 0 0),(7,yc (perfL m)),(9,.own 5),(10,itsA (lvN m (perfL m) l n).2),(11,iv (n:Int)),(12,yc (cuV m k (lvN m (perfL m) l n).2))],[(2,.box (mnE m) 27),(5,.row intE (lvN m (perfL m) l n).1 3 1)]⟩) (ym) ?_);refine yz.imp (yL (z7 rfl rfl rfl (bC _) (zfr m k (lvN m (perfL m) l n).2 (cuV m k (lvN m (perfL m) l n).2) (by omega) (by omega) (by omega) (by omega))) rfl rfl) (ym)
   ·obtain rfl:(11,[8,6,5,4,3,2,1,0,7,9])=c:=by injection N
    refine yp rfl (yn (st0:=⟨[(53,mnA m),(54,yc (perfL m)),(55,iv (n:Int)),(56,.ept intE k 0),(57,iv k),(58,itsA (lvN m (perfL m) l n).2),(59,yc (cuV m k (lvN m (perfL m) l n).2)),(52,.tup [itsA (apV m k (lvN m (perfL m) l n).2 (cuV m k (lvN m (perfL m) l n).2)),iv (apE m k (lvN m (perfL m) l n).2 (cuV m k (lvN m (perfL m) l n).2))]),(61,itsA (apV m k (lvN m (perfL m) l n).2 (cuV m k (lvN m (perfL m) l n).2))),(62,.ifb (β 10) (iv (apE m k (lvN m (perfL m) l n).2 (cuV m k (lvN m (perfL m) l n).2)))),(2,.ptr 2 0 0 0),(7,yc (perfL m)),(9,.own 5),(10,itsA (lvN m (perfL m) l n).2),(11,iv (n:Int)),(12,yc (cuV m k (lvN m (perfL m) l n).2)),(60,.tup [itsA (apV m k (lvN m (perfL m) l n).2 (cuV m k (lvN m (perfL m) l n).2)),iv (apE m k (lvN m (perfL m) l n).2 (cuV m k (lvN m (perfL m) l n).2))])],[(2,.box (mnE m) 27),(5,.row intE (lvN m (perfL m) l n).1 3 1)]⟩) (ym) ?_);refine yz.imp (yL (kK yK) rfl rfl) (ym)
   ·obtain rfl:(12,[9,8,7,6,5,4,3,2,1,0,11,10])=c:=by injection N
    refine yp rfl (yn (st0:=⟨[(53,mnA m),(54,yc (perfL m)),(55,iv (n:Int)),(56,.ept intE k 0),(57,iv k),(58,itsA (lvN m (perfL m) l n).2),(59,yc (cuV m k (lvN m (perfL m) l n).2)),(52,.tup [itsA (apV m k (lvN m (perfL m) l n).2 (cuV m k (lvN m (perfL m) l n).2)),iv (apE m k (lvN m (perfL m) l n).2 (cuV m k (lvN m (perfL m) l n).2))]),(61,itsA (apV m k (lvN m (perfL m) l n).2 (cuV m k (lvN m (perfL m) l n).2))),(62,iv (apE m k (lvN m (perfL m) l n).2 (cuV m k (lvN m (perfL m) l n).2))),(2,.ptr 2 0 0 0),(7,yc (perfL m)),(9,.own 5),(10,itsA (apV m k (lvN m (perfL m) l n).2 (cuV m k (lvN m (perfL m) l n).2))),(11,iv (n:Int)),(12,yc (cuV m k (lvN m (perfL m) l n).2)),(60,.tup [itsA (apV m k (lvN m (perfL m) l n).2 (cuV m k (lvN m (perfL m) l n).2)),iv (apE m k (lvN m (perfL m) l n).2 (cuV m k (lvN m (perfL m) l n).2))])],[(2,.box (mnE m) 27),(5,.row intE (lvN m (perfL m) l n).1 3 1)]⟩) (ym) ?_);refine yz.imp (yL (kK yK) rfl rfl) (ym)
   ·exact absurd N (by simp)
  refine gd ?_ ?_<;>intro T
  ·exact absurd x0 T
  apply yk;apply yf;iterate 2 refine ya ?_
  refine kV (hs:=zL (l:=(lvN m (perfL m) l n).1) (l2:=(cuV m k (lvN m (perfL m) l n).2)) rfl rfl rfl SlK.h TiK.h (by decide) (by decide) (λ_=>rfl) (λ_=>rfl) (by omega) rfl) ?_;refine yj ?_;refine kT (st':=⟨[(2,.ptr 2 0 0 0),(7,yc (perfL m)),(9,.own 5),(10,itsA (apV m k (lvN m (perfL m) l n).2 (cuV m k (lvN m (perfL m) l n).2))),(11,iv (n:Int))],[(2,.box (mnE m) 27),(5,.row intE ((lvN m (perfL m) l n).1++(cuV m k (lvN m (perfL m) l n).2)) 3 1)]⟩) yd ?_;refine gq ?_;refine yu (n+1) (hJ:=by exact hJ.s hk h0) (hI:=yg)
 ·have hn:n=(perfL m).length:=by omega
  have w9:=zyo hm hi hJ hn;obtain⟨hE,Z,V⟩:=w9;apply bA;apply ye;iterate 2 refine ya ?_
  refine yC ?_;refine kQ ?_;refine kM (kL (k:=5) rfl) ?_;refine kY (.many (by decide) (.cons (.tmp rfl (kO ?_)) (.cons (.tmp rfl (kO ?_)) (.cons (.tmp rfl (kO ?_)) .nil))));all_goals(first|exact zE hE|exact zE Z|exact zE V|exact j9 (λz=>yc z) Z|exact j9 (λz=>itsA z) V|exact j9 (λz=>AV.int .i64 z) hE.symm|(with_reducible rfl))
end
end Go.Rse
namespace Go.Rse
open Go Go.RowKit Go.Proofs.Tryz
def zww(C:Ctx)(pv:Value)(vs:List Value)(cs:List AV)(hs':List (Nat×Blk))(e:Exit)(st:St):Prop:=
 e=pnc pv/\∃ts ex,Imp C st ⟨ts,(kN,.hold vs cs)::(hs'++ex)⟩
def zww.mk{C:Ctx}{pv:Value}{vs:List Value}{cs:List AV}{Z:List (Nat×Blk)}{st:St}(hi:Imp C st ⟨[],(kN,.hold vs cs)::(Z++[])⟩:=by exact yd):zww C pv vs cs Z (pnc pv) st:=⟨rfl,[],[],hi⟩
def FnP.intro{P:Program}{f:FuncId}{fn:Func}{c:Code}{n:Nat}{az:List AV}{ts:List (Nat×AV)}{pv:Value}{hs V:List (Nat×Blk)}{kp:List Nat}{cs:List AV}(hc:zan P f=true)(hf:P.funcs[f]? =some fn)(hb:fn.body=some c)(hn:fn.ntmps=n)
 (x0:zbx 0 az=ts)(v5:az.length<=n)(v4:(hs.all λp=>!(p.1.beq kN))=true)(G:(V.all λp=>!(p.1.beq kN))=true)(w9:kp.mapM (hdr hs)=some cs)(E:kp.mapM (hdr V)=some cs)
 (h:∀g w d vs,X P (C0 n d g w) c ⟨ts,(kN,.hold vs cs)::hs⟩ (zww (C0 n d g w) pv vs cs V)):FnP P f az hs kp pv V:=by
 refine⟨hc,λd ρ I O w args U T=>(callsIn_wide (n:=0)).1 (callsIn_of_wp_marks hf hb trivial ?_)⟩;subst x0;have w2:args.length=az.length:=T.1;let C:=C0 n d ⟨ρ,I,O⟩ w
 have xT:Rel C ⟨zbx 0 az,(kN,.hold (kp.map ρ) cs)::hs⟩ ⟨ρ,I,O⟩ {tmps:=args.toArray++Array.replicate (fn.ntmps-args.toArray.size) undef,defers:=[]} w:=by
  refine⟨by simp[hn,C];omega,Dfs.nil _ _ _,λt x hx=>?_,⟨U.im,U.ob,λk B J=>?_⟩,⟨bO _,rfl,rfl,rfl,jE _,jE _,λ_ _ _ _=>⟨rfl,rfl⟩,λb y n _ hy=>⟨n,hy⟩⟩⟩
  ·obtain⟨_,H⟩:=zc2 (I:=I) (ρ:=ρ) az 0 t x hx;simp only[x6]at H;have ht:t<args.length:=by rw[w2];exact(j5.1 H).1
   have e:(args.toArray++Array.replicate (fn.ntmps-args.toArray.size) undef).getD t undef=args[t]:=by
    simp[jM,uU,ht]
   rw[e];exact T.2 t x _ H (lgg ht)
  ·simp only[yq]at J;cases v9:kN.beq k<;>simp[v9]at J
   ·exact(U.blk k B J).ctx
   ·subst J;exact zg9 (g:=⟨ρ,I,O⟩) U w9
 refine wpIn_mono (h _ w d _ _ _ w xT) ?_
 rintro e a w'⟨st,g1,v8,rfl,ts',ex',x4⟩
 obtain⟨g2,x3⟩:=x4 g1 a w' v8;show LeavesInM Fence.wide 0 P fn a.tmps _ a.defers (.panicking [{v:=pv,recovered:=false}]) w';obtain⟨D,hD,v3,v2⟩:=x3.defers;have N:=hD.plain (C:=C) rfl;have N:a.defers=D.map mkD++[]:=by rw[N];simp[C]
 rw[N];refine zfo (C:=C) (st:=⟨ts',(kN,.hold (kp.map ρ) cs)::(V++ex')⟩) (tmps:=a.tmps) (by simp) (tl:=[]) (λg3 w3 Z=>?_) D (g:=g2) (w:=w') (by rw[←N];exact x3)
 have x2:Sat (C0 0 d ⟨ρ,I,O⟩ w) V g3 w3:=⟨Z.sat.im,Z.sat.ob,λk B J=>by
  refine(Z.sat.blk k B ?_).ctx
  have:kN.beq k=false:=by
   cases hb:kN.beq k
   ·rfl
   ·have:kN=k:=by simpa using hb
    subst this;rw[zeV G]at J;simp at J
  simp[yq,this,zcF,J]⟩
 have hh:=Z.sat.blk kN (.hold (kp.map ρ) cs) (by simp[yq])
 have x1:∃v ρ' I' O',(Ending.panicked [{v:=pv,recovered:=false}]=Ending.panicked [{v:=pv,recovered:=false}])/\Sat (C0 0 d ⟨ρ,I,O⟩ w) V ⟨ρ',I',O'⟩ w3/\RV I' ρ' (.tup []) v/\Ext (C0 0 d ⟨ρ,I,O⟩ w) ⟨ρ',I',O'⟩ w3/\∀n∈kp,ρ' n=ρ n:=
  ⟨.tuple #[],g3.ρ,g3.I,g3.O,rfl,x2,.tup [] [] rfl (λj c v hc=>by simp at hc),⟨Z.ext.I,Z.ext.os,Z.ext.tape,Z.ext.output,Z.ext.drawn,Z.ext.size,Z.ext.keep,Z.ext.own⟩,zeU (ρ:=ρ) x2 E hh⟩
 exact x1
end Go.Rse
