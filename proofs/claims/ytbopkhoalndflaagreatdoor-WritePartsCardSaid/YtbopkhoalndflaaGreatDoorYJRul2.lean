/-
  Walks.
-/
import Derived.Test.YtbopkhoalndflaaGreatDoorYJRul1
set_option linter.all false
namespace Go.Rse
open Go Go.Proofs Go.Proofs.Tryz
section
attribute [local irreducible] Pur yA yC Ex X Fn Imp LeV LeB FnO It yH FnW FnOW
def zwf{l:List Int}{k:Nat}{x y:Int}(hx:l[k]? =some x)(h:y∉l.take k)(Z:¬x=y):y∉l.take (k+1):=by
 rw[jF,hx];intro hm;rcases wN.1 hm with hm|hm
 ·exact h hm
 ·simp at hm;exact Z hm.symm
def zsF{s:Sgm}{A:List Int}(h:(chF s A).isSome=true):chF s A=some ((chF s A).getD 0):=by
 cases Z:chF s A with
 |none=>rw[Z]at h;cases h
 |some c=>rfl
def zwg{s:Sgm}{A:List Int}{x:Int}(e:x=(chF s A).getD (-1))(h:x<0):chF s A=none:=by
 cases Z:chF s A with
 |none=>rfl
 |some c=>have:=zpV Z;rw[Z]at e;rw[e]at h;exact absurd (show c<0 from h) (by omega)
def zwh{s:Sgm}{A:List Int}{x:Int}(e:x=(chF s A).getD (-1))(h:0<=x):chF s A=some x:=by
 cases Z:chF s A with
 |none=>rw[Z]at e;subst e;exact absurd h (by decide)
 |some c=>rw[Z]at e;subst e;rfl
attribute [local irreducible] stK okJ alK alQ segV segE unT muF muI chF wnL wdF cuE cuV cuO mdJ
set_option maxHeartbeats 2000000 in
def zfB(m:Mn)(k:Int)(l:List Ite)(h0:-9223372036854775808<=k)(h1:k<=9223372036854775807)(hl:l.length<=1000000):Fn prog 255 [mnA m,iv k,itsA l] (.tup [yc (cuV m k l),iv (cuE m k l)]):=by
 have x4:=zaJ m k l;refine kF func255 ntmps255 (λg w d=>?_);refine gc (zbT m k l h0 h1 hl) ?_;refine gd ?_ ?_<;>intro Q
 ·have N:=zxK Q;obtain⟨hE,V⟩:=N;apply ye;refine yE ?_;refine kE ?_;refine kA (yd (ts:=[(6,yc []),(7,iv (segE m k l))]) (hs:=[])) ?_;refine ym ?_ ?_;all_goals(first|exact zE hE|exact zE V|exact j5 (λz=>yc z) V|exact j5 (λz=>AV.int .i64 z) hE.symm|(with_reducible rfl))
 have U:segE m k l=0:=by omega
 have x3:[]=muF m k l 0:=zB0.symm;apply yk;apply ye;refine yh ?_;iterate 2 apply yf
 refine kJ (yI intE 3 1 10 5 rfl rfl) ?_;apply yj;refine yE ?_;apply kB;refine zM (λn=>[(1,iv k),(2,itsA l),(3,.ptr 3 0 0 0),(10,.own 5),(27,smsA (segV m k l)),(28,iv (segV m k l).length),(29,iv (n:Int))]) (λn=>[(3,.box (mnE m) 23),(5,.row intE (muF m k l n) 3 1)]) (λn=>n<=(segV m k l).length/\muI m k l n=true) ((segV m k l).length) (λn hk=>?_) (hJ:=by exact⟨by omega,zux⟩);obtain⟨x2,Z⟩:=hk;refine gd ?_ ?_<;>intro x1
 ·obtain⟨s,hs⟩:∃s,(segV m k l)[n]? =some s:=⟨_,lgg (by omega)⟩;have x0:(segV m k l)[(n:Int).toNat]? =some s:=by simpa using hs
  have J:=zew m k l s (j6 hs);have w2:=zir Z;have v9:=znP (unT m k) k (segV m k l) l (muF m k l n) (muF m k l n).length;refine gq ?_;refine kT (zn1 (stF:=⟨[(34,mnA m),(35,iv k),(36,itsA l),(37,yc (muF m k l n))],[]⟩) 38 ((k9 (k:=5) rfl).trans yd) (zgA m k l (muF m k l n) h0 h1 (by omega) (by omega) (hE:=U) (hX:=by simp;omega) (hok:=zuy Z) (hN:=zew m k l) (hMS:=by omega))) rfl rfl ?_;refine gd ?_ ?_<;>intro I
  ·exact absurd rfl I
  apply yk;apply yf;refine kJ (k9 (k:=38) rfl) ?_;refine gc (zjt s (akF m k l n) J (by unfold akF;omega)) ?_;refine gd ?_ ?_<;>intro T
  ·have H:chF s (akF m k l n)=none:=by first|exact T|simpa using T
   have G:=zxL U Z hs H;obtain⟨hE,V⟩:=G;apply ye;refine yO ?_;refine kE ?_;refine kA (yd (ts:=[(6,yc []),(7,iv 14)]) (hs:=[])) ?_;refine ym ?_ ?_;all_goals(first|exact zE hE|exact zE V|exact j5 (λz=>yc z) V|exact j5 (λz=>AV.int .i64 z) hE.symm|(with_reducible rfl))
  have H:=zsF T;have E:=zxJ Z hs H;obtain⟨hI,v8⟩:=E;refine gq ?_;refine yD intE [_] ?_;refine gq ?_;refine yz (n+1) (hJ:=by exact⟨by omega,hI⟩) (hI:=yi)
 ·have hn:n=(segV m k l).length:=by omega
  have xT:=zpX U Z hn;obtain⟨hE,V⟩:=xT;apply kO;apply ye;refine yE ?_;refine kE ?_;refine kA (k9 (k:=5) rfl) ?_;refine ym ?_ ?_;all_goals(first|exact zE hE|exact zE V|exact j5 (λz=>yc z) V|exact j5 (λz=>AV.int .i64 z) hE.symm|(with_reducible rfl))
def zhc(l:List Int)(x:Int)(hl:l.length<=4000000000):Fn prog 290 [yc l,iv x] (.bool (decide (x∈l))):=by
 refine kF func290 ntmps290 (λg w d=>?_);apply ye;refine yh ?_;apply yf;apply ye;refine yh ?_;apply kB;refine zM (λk=>[(0,yc l),(1,iv x),(5,iv (k:Int))]) (λk=>[]) (λk=>k<=l.length/\x∉l.take k) l.length (λk Q=>?_) (hJ:=by exact⟨by omega,by simp⟩) (h0:=yd);obtain⟨N,Z⟩:=Q;refine gd ?_ ?_<;>intro J
 ·obtain⟨y,U⟩:∃y,l[k]? =some y:=⟨_,lgg (by omega)⟩;have I:l[(k:Int).toNat]? =some y:=by simpa using U
  refine gd ?_ ?_<;>intro V
  ·have hE:decide (x∈l)=true:=by rw[←V];exact jJ (j6 U)
   refine gq ?_;all_goals rw[hE]
  refine gq ?_;refine yz (k+1) (hJ:=by exact⟨by omega,zwf U Z V⟩)
 ·have T:k=l.length:=by omega
  have hE:decide (x∈l)=false:=by rw[T,jH]at Z;exact jC Z
  refine gq ?_;all_goals rw[hE]
def zeA(s:Sgm)(hN:0<=s.Count.N):Fn prog 289 [smA s] (yc (wnL s)):=by
 refine kF func289 ntmps289 (λg w d=>?_);refine gd ?_ ?_<;>intro Z
 ·apply ye;refine yD intE [_,_] ?_;refine yh ?_;refine kE ?_;refine kA (k9 (k:=11) rfl) ?_;refine gq ?_;all_goals(first|(unfold wnL;simp_all;done)|(unfold wnL;simp_all;rfl))
 refine gd ?_ ?_<;>intro V
 ·apply ye;refine yD intE [_] ?_;refine yh ?_;refine kE ?_;refine kA (k9 (k:=15) rfl) ?_;refine gq ?_;all_goals(first|(unfold wnL;simp_all;done)|(unfold wnL;simp_all;rfl))
 refine gd ?_ ?_<;>intro U
 ·apply ye;refine yD intE [_,_] ?_;refine yh ?_;refine kE ?_;refine kA (k9 (k:=19) rfl) ?_;refine gq ?_;all_goals(first|(unfold wnL;simp_all;done)|(unfold wnL;simp_all;rfl))
 refine gd ?_ ?_<;>intro T
 ·apply ye;refine yD intE [_,_] ?_;refine yh ?_;refine kE ?_;refine kA (k9 (k:=25) rfl) ?_;refine gq ?_;all_goals(first|(unfold wnL;simp_all;done)|(unfold wnL;simp_all;rfl))
 refine gq ?_;refine yD intE [_,_] ?_;refine yh ?_;refine kE ?_;refine kA (k9 (k:=26) rfl) ?_;refine gq ?_;all_goals(first|(unfold wnL;simp_all;done)|(unfold wnL;simp_all;rfl))
set_option maxHeartbeats 2000000 in
def zeB(m:Mn)(k:Int)(l:List Ite)(h0:-9223372036854775808<=k)(h1:k<=9223372036854775807)(hl:l.length<=400000):Fn prog 244 [mnA m,iv k,itsA l] (.tup [yc (cuV m k l),iv (cuE m k l)]):=by
 have x2:=zaJ m k l;refine kF func244 ntmps244 (λg w d=>?_);refine gc (zax m k l h0 h1 (by omega)) ?_;refine gd ?_ ?_<;>intro I
 ·have H:=zxK I;obtain⟨hE,V⟩:=H;apply ye;refine yE ?_;refine kE ?_;refine kA (yd (ts:=[(6,yc []),(7,iv (segE m k l))]) (hs:=[])) ?_;refine ym ?_ ?_;all_goals(first|exact zE hE|exact zE V|exact j5 (λz=>yc z) V|exact j5 (λz=>AV.int .i64 z) hE.symm|(with_reducible rfl))
 have U:segE m k l=0:=by omega
 have x1:[]=muF m k l 0:=zB0.symm;apply yk;apply ye;refine yh ?_;iterate 2 apply yf
 refine kJ (yI intE 3 1 10 5 rfl rfl) ?_;apply yj;refine yh ?_;apply kB;refine zM (λn=>[(1,iv k),(2,itsA l),(3,.ptr 3 0 0 0),(8,smsA (segV m k l)),(10,.own 5),(11,iv (n:Int))]) (λn=>[(3,.box (mnE m) 23),(5,.row intE (muF m k l n) 3 1)]) (λn=>n<=(segV m k l).length/\muI m k l n=true) ((segV m k l).length) (λn hk=>?_) (hJ:=by exact⟨by omega,zux⟩);obtain⟨x0,Z⟩:=hk;refine gd ?_ ?_<;>intro w2
 ·obtain⟨s,hs⟩:∃s,(segV m k l)[n]? =some s:=⟨_,lgg (by omega)⟩;have v9:(segV m k l)[(n:Int).toNat]? =some s:=by simpa using hs
  have G:=zew m k l s (j6 hs);have v8:=zir Z;have v5:=znP (unT m k) k (segV m k l) l (muF m k l n) (muF m k l n).length;have v4:=zvQ s;have v3:-1=wdF (wnL s) (akF m k l n) 0:=(zBm _ _).symm;have v1:((wnL s).length:Int)-1=((wnL s).length:Int)-1-((0:Nat):Int):=by omega
  refine gq ?_;refine kT (zn1 (stF:=⟨[(34,mnA m),(35,iv k),(36,itsA l),(37,yc (muF m k l n))],[]⟩) 38 ((k9 (k:=5) rfl).trans yd) (zdC m k l (muF m k l n) h0 h1 (by omega) (by omega) (hE:=U) (hX:=by simp;omega) (hok:=zuy Z) (hN:=zew m k l) (hMS:=by omega))) rfl rfl ?_;iterate 2 refine ya ?_
  refine yE ?_;apply yf;refine kJ (k9 (k:=38) rfl) ?_;refine gq ?_;refine yP (zeA s G) ?_;refine ya ?_;apply yG;refine yh ?_;apply yf;apply ye;refine ya ?_;refine yE ?_;apply kB;refine zu (λi=>[(1,iv k),(2,itsA l),(3,.ptr 3 0 0 0),(8,smsA (segV m k l)),(10,.own 5),(11,iv (n:Int)),(12,yc (akF m k l n)),(14,yc (wnL s)),(15,iv (wdF (wnL s) (akF m k l n) i)),(16,iv (((wnL s).length:Int)-1-(i:Int)))]) (λi=>[(3,.box (mnE m) 23),(5,.row intE (muF m k l n) 3 1)]) ((wnL s).length) (λi hk=>?_);refine gd ?_ ?_<;>intro v0
  ·obtain⟨x,hx⟩:∃x,(wnL s)[(wnL s).length-1-i]? =some x:=⟨_,lgg (by omega)⟩;have u4:(wnL s)[(((wnL s).length:Int)-1-(i:Int)).toNat]? =some x:=by rw[show(((wnL s).length:Int)-1-(i:Int)).toNat=(wnL s).length-1-i by omega];exact hx
   have T:=zBn (A:=akF m k l n) (show i<(wnL s).length by omega) hx;have u3:((wnL s).length:Int)-1-(i:Int)-1=((wnL s).length:Int)-1-((i+1:Nat):Int):=by omega
   refine gc (zhc (akF m k l n) x (by unfold akF;omega)) ?_;refine gd ?_ ?_<;>intro Q
   ·have N:x=wdF (wnL s) (akF m k l n) (i+1):=by rw[T,j3 Q]
    refine gq ?_;refine yz (i+1) (hI:=yi)
   ·have N:wdF (wnL s) (akF m k l n) i=wdF (wnL s) (akF m k l n) (i+1):=by rw[T,j4 Q]
    refine gq ?_;refine yz (i+1) (hI:=yi)
  ·have hi:i=(wnL s).length:=by omega
   have hW:=zvP (A:=akF m k l n) hi;refine gd ?_ ?_<;>intro J
   ·have E:=zwg hW J;have xT:=zxL U Z hs E;obtain⟨hE,V⟩:=xT;apply ye;refine yO ?_;refine kE ?_;refine kA (yd (ts:=[(6,yc []),(7,iv 14)]) (hs:=[])) ?_;refine ym ?_ ?_;all_goals(first|exact zE hE|exact zE V|exact j5 (λz=>yc z) V|exact j5 (λz=>AV.int .i64 z) hE.symm|(with_reducible rfl))
   have E:=zwh hW J;have x4:=zxJ Z hs E;obtain⟨hI,T⟩:=x4;refine gq ?_;refine yD intE [_] ?_;refine gq ?_;refine yz (n+1) (hJ:=by exact⟨by omega,hI⟩) (hI:=yi)
 ·have hn:n=(segV m k l).length:=by omega
  have x3:=zpX U Z hn;obtain⟨hE,V⟩:=x3;apply kO;apply ye;refine yE ?_;refine kE ?_;refine kA (k9 (k:=5) rfl) ?_;refine ym ?_ ?_;all_goals(first|exact zE hE|exact zE V|exact j5 (λz=>yc z) V|exact j5 (λz=>AV.int .i64 z) hE.symm|(with_reducible rfl))
end
section
attribute [local irreducible] Pur yA yC Ex X Fn Imp LeV LeB FnO It yH FnW FnOW
attribute [local irreducible] cuV cuE apV apE leE leC leI lvN lvF ckM perfL ckIE ckIX
set_option maxHeartbeats 2000000 in
def zeC(m:Mn)(l:List Ite)(hl:l.length<=100000):Fn prog 185 [mnA m,itsA l] (.tup [yc (leC m l),itsA (leI m l),iv (leE m l)]):=by
 have w2:=zkF m;refine kF func185 ntmps185 (λg w d=>?_);refine gc (zb6 m) ?_;refine gd ?_ ?_<;>intro J
 ·have I:=zxM (l:=l) J;obtain⟨hE,Z,V⟩:=I;apply ye;refine ya ?_;refine yE ?_;refine kE ?_;refine kA (yd (ts:=[(4,yc []),(5,itsA []),(6,iv (ckM m))]) (hs:=[])) ?_;refine kL (.many (by decide) (.cons (.tmp rfl (kC ?_)) (.cons (.tmp rfl (kC ?_)) (.cons (.tmp rfl (kC ?_)) .nil))));all_goals(first|exact zE hE|exact zE Z|exact zE V|exact j5 (λz=>yc z) Z|exact j5 (λz=>itsA z) V|exact j5 (λz=>AV.int .i64 z) hE.symm|(with_reducible rfl))
 have hm:ckM m=0:=by omega
 rw[show(if ckM m=0 then perfL m else[])=perfL m from j3 hm];refine gc (zci l (by omega)) ?_;refine gd ?_ ?_<;>intro H
 ·have G:=zxN hm H;obtain⟨hE,Z,V⟩:=G;apply ye;refine ya ?_;refine yE ?_;refine kE ?_;refine kA (yd (ts:=[(4,yc []),(5,itsA []),(6,iv (ckIE l))]) (hs:=[])) ?_;refine kL (.many (by decide) (.cons (.tmp rfl (kC ?_)) (.cons (.tmp rfl (kC ?_)) (.cons (.tmp rfl (kC ?_)) .nil))));all_goals(first|exact zE hE|exact zE Z|exact zE V|exact j5 (λz=>yc z) Z|exact j5 (λz=>itsA z) V|exact j5 (λz=>AV.int .i64 z) hE.symm|(with_reducible rfl))
 have hi:ckIE l=0:=by omega
 apply yk;apply ye;refine yh ?_;apply yf;refine kJ (yI intE 3 1 9 5 rfl rfl) ?_;apply yj;refine yD itE [] ?_;refine ya ?_;refine kK ?_;refine yh ?_;iterate 2 apply yf
 have v9:[]=(lvN m (perfL m) l 0).1:=by unfold lvN;rfl
 have v8:([]:List Ite)++l=(lvN m (perfL m) l 0).2:=by unfold lvN;rfl
 refine kJ (st':=⟨[(2,.ptr 2 0 0 0),(7,yc (perfL m)),(9,.own 5),(10,itsA ([]++l))],[(2,.box (mnE m) 23),(5,.row intE [] 3 1)]⟩) ((k9 (k:=30) rfl).trans yd) ?_;apply yj;refine yh ?_;apply kB;refine zM (λn=>[(2,.ptr 2 0 0 0),(7,yc (perfL m)),(9,.own 5),(10,itsA (lvN m (perfL m) l n).2),(11,iv (n:Int))]) (λn=>[(2,.box (mnE m) 23),(5,.row intE (lvN m (perfL m) l n).1 3 1)]) (λn=>LvJ m (perfL m) l n) ((perfL m).length) (λn U=>?_) (hJ:=by exact zuz _ _ _);have hJ:=U;have v5:=hJ.le;clear U;refine gd ?_ ?_<;>intro v4
 ·obtain⟨k,U⟩:∃k,(perfL m)[n]? =some k:=⟨_,lgg (by omega)⟩;have E:(perfL m)[(n:Int).toNat]? =some k:=by simpa using U
  have v3:=zpY U;have x0:=hJ.len;have T:=hJ.cho;have v1:n<=4:=by omega
  have Q:(lvN m (perfL m) l n).1.length<=5*(2*l.length+2):=jQ T (jT _ (by omega));have v0:=zhW (m:=m) (k:=k) (l:=(lvN m (perfL m) l n).2);have xT:=zkE (m:=m) (l:=l) U;obtain⟨u4,u3⟩:=xT;refine gq ?_;refine yW [12,13,39,40,41,42,43,44,45,46,47,48] [0,0,0,6,14,0,63,127,255,255,511,2047] mo ?_;iterate 6 refine yb ?_
  refine yL (zeB m k (lvN m (perfL m) l n).2 (by omega) (by omega) (by omega)) ?_;iterate 5 refine yb ?_
  refine yF ?_;refine gd ?_ ?_<;>intro x4
  ·have x3:=zxO hm hi hJ U x4;obtain⟨hE,Z,V⟩:=x3;apply ye;refine ya ?_;refine yE ?_;refine kE ?_;refine kA (yd (ts:=[(4,yc []),(5,itsA []),(6,iv (cuE m k (lvN m (perfL m) l n).2))]) (hs:=[])) ?_;refine kL (.many (by decide) (.cons (.tmp rfl (kC ?_)) (.cons (.tmp rfl (kC ?_)) (.cons (.tmp rfl (kC ?_)) .nil))));all_goals(first|exact zE hE|exact zE Z|exact zE V|exact j5 (λz=>yc z) Z|exact j5 (λz=>itsA z) V|exact j5 (λz=>AV.int .i64 z) hE.symm|(with_reducible rfl))
  have h0:cuE m k (lvN m (perfL m) l n).2=0:=by omega
  have x2:=zlU h0;refine gq ?_;refine kW [⟨0,53,mnA m,[]⟩,⟨1,54,yc (perfL m),[]⟩,⟨2,55,iv (n:Int),[]⟩,⟨3,56,.ept intE k 0,[2,1]⟩,⟨4,57,iv k,[2,1,3]⟩,⟨5,58,itsA (lvN m (perfL m) l n).2,[]⟩,⟨6,59,yc (cuV m k (lvN m (perfL m) l n).2),[]⟩,⟨8,52,.tup [itsA (apV m k (lvN m (perfL m) l n).2 (cuV m k (lvN m (perfL m) l n).2)),iv (apE m k (lvN m (perfL m) l n).2 (cuV m k (lvN m (perfL m) l n).2))],[2,1,3,6,5,4,0,7]⟩,⟨9,61,itsA (apV m k (lvN m (perfL m) l n).2 (cuV m k (lvN m (perfL m) l n).2)),[2,1,3,6,5,4,0,7,8]⟩,⟨10,62,iv (apE m k (lvN m (perfL m) l n).2 (cuV m k (lvN m (perfL m) l n).2)),[2,1,3,6,5,4,0,7,8]⟩] [(7,[2,1,3,6,5,4,0]),(11,[8,6,5,4,3,2,1,0,7,9]),(12,[9,8,7,6,5,4,3,2,1,0,11,10])] (λj=>match j with|0=>⟨[(2,.ptr 2 0 0 0),(7,yc (perfL m)),(9,.own 5),(10,itsA (lvN m (perfL m) l n).2),(11,iv (n:Int)),(12,yc (cuV m k (lvN m (perfL m) l n).2))],[(2,.box (mnE m) 23),(5,.row intE (lvN m (perfL m) l n).1 3 1)]⟩|1=>⟨[(2,.ptr 2 0 0 0),(7,yc (perfL m)),(9,.own 5),(10,itsA (lvN m (perfL m) l n).2),(11,iv (n:Int)),(12,yc (cuV m k (lvN m (perfL m) l n).2)),(60,.tup [itsA (apV m k (lvN m (perfL m) l n).2 (cuV m k (lvN m (perfL m) l n).2)),iv (apE m k (lvN m (perfL m) l n).2 (cuV m k (lvN m (perfL m) l n).2))])],[(2,.box (mnE m) 23),(5,.row intE (lvN m (perfL m) l n).1 3 1)]⟩|2=>⟨[(2,.ptr 2 0 0 0),(7,yc (perfL m)),(9,.own 5),(10,itsA (apV m k (lvN m (perfL m) l n).2 (cuV m k (lvN m (perfL m) l n).2))),(11,iv (n:Int)),(12,yc (cuV m k (lvN m (perfL m) l n).2)),(60,.tup [itsA (apV m k (lvN m (perfL m) l n).2 (cuV m k (lvN m (perfL m) l n).2)),iv (apE m k (lvN m (perfL m) l n).2 (cuV m k (lvN m (perfL m) l n).2))])],[(2,.box (mnE m) 23),(5,.row intE (lvN m (perfL m) l n).1 3 1)]⟩|_=>⟨[(2,.ptr 2 0 0 0),(7,yc (perfL m)),(9,.own 5),(10,itsA (apV m k (lvN m (perfL m) l n).2 (cuV m k (lvN m (perfL m) l n).2))),(11,iv (n:Int)),(12,yc (cuV m k (lvN m (perfL m) l n).2)),(60,.tup [itsA (apV m k (lvN m (perfL m) l n).2 (cuV m k (lvN m (perfL m) l n).2)),iv (apE m k (lvN m (perfL m) l n).2 (cuV m k (lvN m (perfL m) l n).2))]),(13,iv (apE m k (lvN m (perfL m) l n).2 (cuV m k (lvN m (perfL m) l n).2)))],[(2,.box (mnE m) 23),(5,.row intE (lvN m (perfL m) l n).1 3 1)]⟩) mo (by kernel_rfl) (zg (yd)) (λj hj=>?_) (λj c N β hβ=>?_) ?_
  ·rcases j with _|_|_|_|j
   ·(iterate 3 refine⟨.inr ⟨_,rfl,rfl,rfl,rfl,k8 yJ⟩,?_⟩);refine⟨.inr ⟨_,rfl,rfl,rfl,rfl,k8 (zaj (enc:=intE) (l:=(perfL m)) (u:=k) rfl rfl SlK.h TyK.h (λ_=>rfl) (by omega) E)⟩,?_⟩;exact yw
   ·exact yw
   ·exact yw
   ·exact yw
   ·exact absurd (show j+4<=3 from hj) (by omega)
  ·rcases j with _|_|_|j
   ·obtain rfl:(7,[2,1,3,6,5,4,0])=c:=by injection N
    refine yo rfl (yn (st0:=⟨[(53,mnA m),(54,yc (perfL m)),(55,iv (n:Int)),(56,.ept intE k 0),(57,iv k),(58,itsA (lvN m (perfL m) l n).2),(59,yc (cuV m k (lvN m (perfL m) l n).2)),(52,.ifb (β 8) (.tup [itsA (apV m k (lvN m (perfL m) l n).2 (cuV m k (lvN m (perfL m) l n).2)),iv (apE m k (lvN m (perfL m) l n).2 (cuV m k (lvN m (perfL m) l n).2))])),(61,.ifb (β 9) (itsA (apV m k (lvN m (perfL m) l n).2 (cuV m k (lvN m (perfL m) l n).2)))),(62,.ifb (β 10) (iv (apE m k (lvN m (perfL m) l n).2 (cuV m k (lvN m (perfL m) l n).2)))),(2,.ptr 2 0 0 0),(7,yc (perfL m)),(9,.own 5),(10,itsA (lvN m (perfL m) l n).2),(11,iv (n:Int)),(12,yc (cuV m k (lvN m (perfL m) l n).2))],[(2,.box (mnE m) 23),(5,.row intE (lvN m (perfL m) l n).1 3 1)]⟩) (yl) ?_);refine yC.imp (yK (zT rfl rfl rfl (kS _) (zfn m k (lvN m (perfL m) l n).2 (cuV m k (lvN m (perfL m) l n).2) (by omega) (by omega) (by omega) (by omega))) rfl rfl) (yl)
   ·obtain rfl:(11,[8,6,5,4,3,2,1,0,7,9])=c:=by injection N
    refine yo rfl (yn (st0:=⟨[(53,mnA m),(54,yc (perfL m)),(55,iv (n:Int)),(56,.ept intE k 0),(57,iv k),(58,itsA (lvN m (perfL m) l n).2),(59,yc (cuV m k (lvN m (perfL m) l n).2)),(52,.tup [itsA (apV m k (lvN m (perfL m) l n).2 (cuV m k (lvN m (perfL m) l n).2)),iv (apE m k (lvN m (perfL m) l n).2 (cuV m k (lvN m (perfL m) l n).2))]),(61,itsA (apV m k (lvN m (perfL m) l n).2 (cuV m k (lvN m (perfL m) l n).2))),(62,.ifb (β 10) (iv (apE m k (lvN m (perfL m) l n).2 (cuV m k (lvN m (perfL m) l n).2)))),(2,.ptr 2 0 0 0),(7,yc (perfL m)),(9,.own 5),(10,itsA (lvN m (perfL m) l n).2),(11,iv (n:Int)),(12,yc (cuV m k (lvN m (perfL m) l n).2)),(60,.tup [itsA (apV m k (lvN m (perfL m) l n).2 (cuV m k (lvN m (perfL m) l n).2)),iv (apE m k (lvN m (perfL m) l n).2 (cuV m k (lvN m (perfL m) l n).2))])],[(2,.box (mnE m) 23),(5,.row intE (lvN m (perfL m) l n).1 3 1)]⟩) (yl) ?_);refine yC.imp (yK (k8 yJ) rfl rfl) (yl)
   ·obtain rfl:(12,[9,8,7,6,5,4,3,2,1,0,11,10])=c:=by injection N
    refine yo rfl (yn (st0:=⟨[(53,mnA m),(54,yc (perfL m)),(55,iv (n:Int)),(56,.ept intE k 0),(57,iv k),(58,itsA (lvN m (perfL m) l n).2),(59,yc (cuV m k (lvN m (perfL m) l n).2)),(52,.tup [itsA (apV m k (lvN m (perfL m) l n).2 (cuV m k (lvN m (perfL m) l n).2)),iv (apE m k (lvN m (perfL m) l n).2 (cuV m k (lvN m (perfL m) l n).2))]),(61,itsA (apV m k (lvN m (perfL m) l n).2 (cuV m k (lvN m (perfL m) l n).2))),(62,iv (apE m k (lvN m (perfL m) l n).2 (cuV m k (lvN m (perfL m) l n).2))),(2,.ptr 2 0 0 0),(7,yc (perfL m)),(9,.own 5),(10,itsA (apV m k (lvN m (perfL m) l n).2 (cuV m k (lvN m (perfL m) l n).2))),(11,iv (n:Int)),(12,yc (cuV m k (lvN m (perfL m) l n).2)),(60,.tup [itsA (apV m k (lvN m (perfL m) l n).2 (cuV m k (lvN m (perfL m) l n).2)),iv (apE m k (lvN m (perfL m) l n).2 (cuV m k (lvN m (perfL m) l n).2))])],[(2,.box (mnE m) 23),(5,.row intE (lvN m (perfL m) l n).1 3 1)]⟩) (yl) ?_);refine yC.imp (yK (k8 yJ) rfl rfl) (yl)
   ·exact absurd N (by simp)
  refine gd ?_ ?_<;>intro Q
  ·exact absurd x2 Q
  apply yk;apply yj;iterate 2 refine ya ?_
  refine kK (hs:=y6 (l:=(lvN m (perfL m) l n).1) (l2:=(cuV m k (lvN m (perfL m) l n).2)) rfl rfl rfl SlK.h TiK.h (by decide) (by decide) (λ_=>rfl) (λ_=>rfl) (by omega) rfl) ?_;refine yh ?_;refine kJ (st':=⟨[(2,.ptr 2 0 0 0),(7,yc (perfL m)),(9,.own 5),(10,itsA (apV m k (lvN m (perfL m) l n).2 (cuV m k (lvN m (perfL m) l n).2))),(11,iv (n:Int))],[(2,.box (mnE m) 23),(5,.row intE ((lvN m (perfL m) l n).1++(cuV m k (lvN m (perfL m) l n).2)) 3 1)]⟩) yd ?_;refine gq ?_;refine yz (n+1) (hJ:=by exact hJ.s U h0) (hI:=yi)
 ·have hn:n=(perfL m).length:=by omega
  have x1:=zxP hm hi hJ hn;obtain⟨hE,Z,V⟩:=x1;apply kO;apply ye;iterate 2 refine ya ?_
  refine yE ?_;refine kE ?_;refine kA (k9 (k:=5) rfl) ?_;refine kL (.many (by decide) (.cons (.tmp rfl (kC ?_)) (.cons (.tmp rfl (kC ?_)) (.cons (.tmp rfl (kC ?_)) .nil))));all_goals(first|exact zE hE|exact zE Z|exact zE V|exact j5 (λz=>yc z) Z|exact j5 (λz=>itsA z) V|exact j5 (λz=>AV.int .i64 z) hE.symm|(with_reducible rfl))
end
end Go.Rse
namespace Go.Rse
open Go Go.RowKit Go.Proofs.Tryz
def zuR(C:Ctx)(pv:Value)(vs:List Value)(cs:List AV)(hs':List (Nat×Blk))(e:Exit)(st:St):Prop:=
 e=pnc pv/\∃ts ex,Imp C st ⟨ts,(kN,.hold vs cs)::(hs'++ex)⟩
def zuR.mk{C:Ctx}{pv:Value}{vs:List Value}{cs:List AV}{Z:List (Nat×Blk)}{st:St}(hi:Imp C st ⟨[],(kN,.hold vs cs)::(Z++[])⟩:=by exact yd):zuR C pv vs cs Z (pnc pv) st:=⟨rfl,[],[],hi⟩
def FnP.intro{P:Program}{f:FuncId}{fn:Func}{c:Code}{n:Nat}{az:List AV}{ts:List (Nat×AV)}{pv:Value}{hs V:List (Nat×Blk)}{kp:List Nat}{cs:List AV}(hc:zak P f=true)(hf:P.funcs[f]? =some fn)(hb:fn.body=some c)(hn:fn.ntmps=n)
 (x1:zbs 0 az=ts)(v5:az.length<=n)(v4:(hs.all λp=>!(p.1.beq kN))=true)(H:(V.all λp=>!(p.1.beq kN))=true)(x0:kp.mapM (hdr hs)=some cs)(G:kp.mapM (hdr V)=some cs)
 (h:∀g w d vs,X P (C0 n d g w) c ⟨ts,(kN,.hold vs cs)::hs⟩ (zuR (C0 n d g w) pv vs cs V)):FnP P f az hs kp pv V:=by
 refine⟨hc,λd ρ I O w args U T=>(callsIn_wide (n:=0)).1 (callsIn_of_wp_marks hf hb trivial ?_)⟩;subst x1;have w2:args.length=az.length:=T.1;let C:=C0 n d ⟨ρ,I,O⟩ w
 have E:Rel C ⟨zbs 0 az,(kN,.hold (kp.map ρ) cs)::hs⟩ ⟨ρ,I,O⟩ {tmps:=args.toArray++Array.replicate (fn.ntmps-args.toArray.size) undef,defers:=[]} w:=by
  refine⟨by simp[hn,C];omega,Dfs.nil _ _ _,λt x hx=>?_,⟨U.im,U.ob,λk B N=>?_⟩,⟨bE _,rfl,rfl,rfl,jD _,jD _,λ_ _ _ _=>⟨rfl,rfl⟩,λb y n _ hy=>⟨n,hy⟩⟩⟩
  ·obtain⟨_,J⟩:=zc1 (I:=I) (ρ:=ρ) az 0 t x hx;simp only[vS]at J;have ht:t<args.length:=by rw[w2];exact(j1.1 J).1
   have e:(args.toArray++Array.replicate (fn.ntmps-args.toArray.size) undef).getD t undef=args[t]:=by
    simp[jI,uI,ht]
   rw[e];exact T.2 t x _ J (lgg ht)
  ·simp only[yq]at N;cases v9:kN.beq k<;>simp[v9]at N
   ·exact(U.blk k B N).ctx
   ·subst N;exact zgV (g:=⟨ρ,I,O⟩) U x0
 refine wpIn_mono (h _ w d _ _ _ w E) ?_
 rintro e a w'⟨st,g1,v8,rfl,ts',ex',xT⟩
 obtain⟨g2,x4⟩:=xT g1 a w' v8;show LeavesInM Fence.wide 0 P fn a.tmps _ a.defers (.panicking [{v:=pv,recovered:=false}]) w';obtain⟨D,hD,v3,v1⟩:=x4.defers;have Q:=hD.plain (C:=C) rfl;have Q:a.defers=D.map mkD++[]:=by rw[Q];simp[C]
 rw[Q];refine zfj (C:=C) (st:=⟨ts',(kN,.hold (kp.map ρ) cs)::(V++ex')⟩) (tmps:=a.tmps) (by simp) (tl:=[]) (λg3 w3 Z=>?_) D (g:=g2) (w:=w') (by rw[←Q];exact x4)
 have x3:Sat (C0 0 d ⟨ρ,I,O⟩ w) V g3 w3:=⟨Z.sat.im,Z.sat.ob,λk B N=>by
  refine(Z.sat.blk k B ?_).ctx
  have:kN.beq k=false:=by
   cases hb:kN.beq k
   ·rfl
   ·have:kN=k:=by simpa using hb
    subst this;rw[zeR H]at N;simp at N
  simp[yq,this,zcA,N]⟩
 have hh:=Z.sat.blk kN (.hold (kp.map ρ) cs) (by simp[yq])
 have x2:∃v ρ' I' O',(Ending.panicked [{v:=pv,recovered:=false}]=Ending.panicked [{v:=pv,recovered:=false}])/\Sat (C0 0 d ⟨ρ,I,O⟩ w) V ⟨ρ',I',O'⟩ w3/\RV I' ρ' (.tup []) v/\Ext (C0 0 d ⟨ρ,I,O⟩ w) ⟨ρ',I',O'⟩ w3/\∀n∈kp,ρ' n=ρ n:=
  ⟨.tuple #[],g3.ρ,g3.I,g3.O,rfl,x3,.tup [] [] rfl (λj c v hc=>by simp at hc),⟨Z.ext.I,Z.ext.os,Z.ext.tape,Z.ext.output,Z.ext.drawn,Z.ext.size,Z.ext.keep,Z.ext.own⟩,zeQ (ρ:=ρ) x3 G hh⟩
 exact x2
end Go.Rse
namespace Go.Rse
open Go Go.Proofs Go.Proofs.Tryz
attribute [local irreducible] Pur yA yC Ex X Fn Imp LeV LeB FnO It yH FnW FnOW FnP
attribute [local irreducible] cuV cuE apV apE leE leC leI lvN lvF ckM perfL ckIE ckIX
def ziA(m:Mn)(l:List Ite)(C:List Int):FnO prog 194 [.ptr 2000000 0 0 0] [(2000000,.box [iv m.Max,iv m.Mod,iv m.Tem,iv m.Pro,yc [],itsA l,.own 2000001] 239),(2000001,.row intE (C) 3 1)] [2000000,2000001] (.nilf) [(2000000,.box [iv m.Max,iv m.Mod,iv m.Tem,iv m.Pro,yc [],itsA l,.own 2000001] 239),(2000001,.row intE (C) 3 1)]:=by
 refine kX (ts:=[(0,.ptr 2000000 0 0 0)]) (rv:=[.tmp 2]) (n:=75) (cs:=[.ptr 2000000 0 0 0,.own 2000001]) (by kernel_rfl) func194 rfl ntmps194 rfl rfl (by simp) rfl rfl rfl rfl (λg w d vs=>?_);apply ye;refine yh ?_;apply yf;apply ye;refine ya ?_;refine ya ?_ (hs:=by exact yg rfl);refine gd ?_ ?_<;>intro Z
 ·apply ye;refine yh ?_;refine kE ?_;refine zkj.mk [(2,.nilf)] [] (.inr rfl) (.one (.tmp rfl (kC ?_)));all_goals rfl
 exact absurd rfl Z
def zhI(m:Mn)(l:List Ite)(C:List Int)(k:Int)(r:List Int)(T:1<=k/\k<=4)(hl:l.length<=1000)(J:C.length<=1000000)(h0:¬cuE m k l=0):FnP prog 194 [.ptr 2000000 0 0 0] [(2000000,.box [iv m.Max,iv m.Mod,iv m.Tem,iv m.Pro,yc (k::r),itsA l,.own 2000001] 239),(2000001,.row intE (C) 3 1)] [2000000,2000001] (ifV 234 .i64 (cuE m k l)) [(2000000,.box [iv m.Max,iv m.Mod,iv m.Tem,iv m.Pro,yc r,itsA l,.own 2000001] 239),(2000001,.row intE (C) 3 1)]:=by
 have Q:(k::r)[(0:Int).toNat]? =some k:=rfl;have U:=T.1;have N:=zhW (m:=m) (k:=k) (l:=l);refine FnP.intro (ts:=[(0,.ptr 2000000 0 0 0)]) (n:=75) (cs:=[.ptr 2000000 0 0 0,.own 2000001]) (by kernel_rfl) func194 rfl ntmps194 rfl (by simp) rfl rfl rfl rfl (λg w d vs=>?_);apply ye;refine yh ?_;apply yf;apply ye;refine ya ?_;refine ya ?_ (hs:=by exact yg rfl);refine gd ?_ ?_<;>intro Z
 ·exact absurd Z (by simp;omega)
 apply yk;apply ye;refine ya ?_;refine ya ?_ (hs:=by exact yg rfl);iterate 5 refine ya ?_
 apply yG;iterate 2 refine ya ?_
 refine ya ?_ (hs:=by exact yg rfl);refine gq ?_
 first
  |refine zz (zf rfl rfl rfl sl46 ty3 (by omega) (by omega)) rfl ?_
  |refine zz (zp rfl rfl sl46 ty3 (λ_=>rfl) (by omega) (by omega)) rfl ?_
 refine ya ?_ (hs:=by exact yg rfl);refine gq ?_;refine yW [4,5,26,27,28,29,30,31,32,33,34,35,36,37,38] [0,1,3,7,0,0,32,96,224,511,1023,2047,2047,4095,16383] mo ?_;refine yb ?_;refine yb ?_ (hs:=by exact yg rfl);iterate 4 refine yb ?_
 refine yb ?_ (hs:=by exact yg rfl);iterate 2 refine yb ?_
 refine yL (zfB m k l (by omega) (by omega) (by omega)) ?_;iterate 5 refine yb ?_
 refine yF ?_;refine gd ?_ ?_<;>intro V
 ·(refine yj ?_;refine ya ?_;refine ya ?_;refine ya (hs:=by exact zlp rfl ⟨_,Tryz.underlying234⟩) ?_;refine Ex.panic ?_;exact zuR.mk)
 exact absurd V h0
set_option maxHeartbeats 2000000 in
def zju(m:Mn)(l:List Ite)(C:List Int)(k:Int)(r:List Int)(J:1<=k/\k<=4)(hl:l.length<=1000)(E:C.length<=1000000)(h0:cuE m k l=0):FnO prog 194 [.ptr 2000000 0 0 0] [(2000000,.box [iv m.Max,iv m.Mod,iv m.Tem,iv m.Pro,yc (k::r),itsA l,.own 2000001] 239),(2000001,.row intE (C) 3 1)] [2000000] (.fn 194 []) [(2000000,.box [iv m.Max,iv m.Mod,iv m.Tem,iv m.Pro,yc r,itsA (apV m k l (cuV m k l)),.own 2000012] 239),(2000012,.row intE (C++(cuV m k l)) 3 1)]:=by
 have I:(k::r)[(0:Int).toNat]? =some k:=rfl;have N:=J.1;have H:=zhW (m:=m) (k:=k) (l:=l);have V:=zlU h0;refine kX (ts:=[(0,.ptr 2000000 0 0 0)]) (rv:=[.tmp 2]) (n:=75) (cs:=[.ptr 2000000 0 0 0]) (by kernel_rfl) func194 rfl ntmps194 rfl rfl (by simp) rfl rfl rfl rfl (λg w d vs=>?_);apply ye;refine yh ?_;apply yf;apply ye;refine ya ?_;refine ya ?_ (hs:=by exact yg rfl);refine gd ?_ ?_<;>intro U
 ·exact absurd U (by simp;omega)
 apply yk;apply ye;refine ya ?_;refine ya ?_ (hs:=by exact yg rfl);iterate 5 refine ya ?_
 apply yG;iterate 2 refine ya ?_
 refine ya ?_ (hs:=by exact yg rfl);refine gq ?_
 first
  |refine zz (zf rfl rfl rfl sl46 ty3 (by omega) (by omega)) rfl ?_
  |refine zz (zp rfl rfl sl46 ty3 (λ_=>rfl) (by omega) (by omega)) rfl ?_
 refine ya ?_ (hs:=by exact yg rfl);refine gq ?_;refine yW [4,5,26,27,28,29,30,31,32,33,34,35,36,37,38] [0,1,3,7,0,0,32,96,224,511,1023,2047,2047,4095,16383] mo ?_;refine yb ?_;refine yb ?_ (hs:=by exact yg rfl);iterate 4 refine yb ?_
 refine yb ?_ (hs:=by exact yg rfl);iterate 2 refine yb ?_
 refine yL (zfB m k l (by omega) (by omega) (by omega)) ?_;iterate 5 refine yb ?_
 refine yF ?_;refine gd ?_ ?_<;>intro T
 ·exact absurd h0 T
 refine gq ?_;refine kW [⟨0,45,.ptr 2000000 0 0 0,[]⟩,⟨1,46,.ptr 2000000 0 0 0,[]⟩,⟨2,47,.ptr 2000000 0 0 0,[1]⟩,⟨3,48,.ptr 2000000 0 0 (0+0),[1,2]⟩,⟨4,49,mnA m,[1,2,3]⟩,⟨5,50,iv k,[]⟩,⟨6,51,.ptr 2000000 0 0 0,[]⟩,⟨7,52,.ptr 2000000 0 0 0,[6]⟩,⟨8,53,.ptr 2000000 0 0 (0+5),[6,7]⟩,⟨9,54,itsA l,[6,7,8]⟩,⟨10,55,yc (cuV m k l),[]⟩,⟨12,44,.tup [itsA (apV m k l (cuV m k l)),iv (apE m k l (cuV m k l))],[6,1,7,2,8,3,10,9,5,4,11]⟩,⟨13,57,itsA (apV m k l (cuV m k l)),[6,1,7,2,8,3,10,9,5,4,11,12]⟩,⟨14,58,iv (apE m k l (cuV m k l)),[6,1,7,2,8,3,10,9,5,4,11,12]⟩,⟨15,59,.ptr 2000000 0 0 0,[13,12,11,10,9,8,7,6,5,4,3,2,1,0]⟩,⟨16,60,.ptr 2000000 0 0 (0+5),[13,12,11,10,9,8,7,6,5,4,3,2,1,0,15]⟩] [(11,[6,1,7,2,8,3,10,9,5,4]),(17,[15,12,10,9,8,7,6,5,4,3,2,1,0,11,13,16]),(18,[16,15,13,12,11,10,9,8,7,6,5,4,3,2,1,0,17,14])] (λj=>match j with|0=>⟨[(0,.ptr 2000000 0 0 0),(3,iv k),(4,yc (cuV m k l))],[(1000001,.hold vs [.ptr 2000000 0 0 0]),(2000000,.box [iv m.Max,iv m.Mod,iv m.Tem,iv m.Pro,yc r,itsA l,.own 2000001] 239),(2000001,.row intE (C) 3 1)]⟩|1=>⟨[(0,.ptr 2000000 0 0 0),(3,iv k),(4,yc (cuV m k l)),(56,.tup [itsA (apV m k l (cuV m k l)),iv (apE m k l (cuV m k l))])],[(1000001,.hold vs [.ptr 2000000 0 0 0]),(2000000,.box [iv m.Max,iv m.Mod,iv m.Tem,iv m.Pro,yc r,itsA l,.own 2000001] 239),(2000001,.row intE (C) 3 1)]⟩|2=>⟨[(0,.ptr 2000000 0 0 0),(3,iv k),(4,yc (cuV m k l)),(56,.tup [itsA (apV m k l (cuV m k l)),iv (apE m k l (cuV m k l))])],[(1000001,.hold vs [.ptr 2000000 0 0 0]),(2000000,.box [iv m.Max,iv m.Mod,iv m.Tem,iv m.Pro,yc r,itsA (apV m k l (cuV m k l)),.own 2000001] 239),(2000001,.row intE (C) 3 1)]⟩|_=>⟨[(0,.ptr 2000000 0 0 0),(3,iv k),(4,yc (cuV m k l)),(56,.tup [itsA (apV m k l (cuV m k l)),iv (apE m k l (cuV m k l))]),(5,iv (apE m k l (cuV m k l)))],[(1000001,.hold vs [.ptr 2000000 0 0 0]),(2000000,.box [iv m.Max,iv m.Mod,iv m.Tem,iv m.Pro,yc r,itsA (apV m k l (cuV m k l)),.own 2000001] 239),(2000001,.row intE (C) 3 1)]⟩) mo (by kernel_rfl) (zg (yd)) (λj G=>?_) (λj c Z β hβ=>?_) ?_
 ·rcases j with _|_|_|_|j
  ·exact yw
  ·exact yw
  ·exact yw
  ·exact yw
  ·exact absurd (show j+4<=3 from G) (by omega)
 ·rcases j with _|_|_|j
  ·obtain rfl:(11,[6,1,7,2,8,3,10,9,5,4])=c:=by injection Z
   refine yo rfl (yn (st0:=⟨[(45,.ifb (β 0) (.ptr 2000000 0 0 0)),(46,.ptr 2000000 0 0 0),(47,.ptr 2000000 0 0 0),(48,.ptr 2000000 0 0 (0+0)),(49,mnA m),(50,iv k),(51,.ptr 2000000 0 0 0),(52,.ptr 2000000 0 0 0),(53,.ptr 2000000 0 0 (0+5)),(54,itsA l),(55,yc (cuV m k l)),(44,.ifb (β 12) (.tup [itsA (apV m k l (cuV m k l)),iv (apE m k l (cuV m k l))])),(57,.ifb (β 13) (itsA (apV m k l (cuV m k l)))),(58,.ifb (β 14) (iv (apE m k l (cuV m k l)))),(59,.ifb (β 15) (.ptr 2000000 0 0 0)),(60,.ifb (β 16) (.ptr 2000000 0 0 (0+5))),(0,.ptr 2000000 0 0 0),(3,iv k),(4,yc (cuV m k l))],[(1000001,.hold vs [.ptr 2000000 0 0 0]),(2000000,.box [iv m.Max,iv m.Mod,iv m.Tem,iv m.Pro,yc r,itsA l,.own 2000001] 239),(2000001,.row intE (C) 3 1)]⟩) (yl) ?_);refine yC.imp (yK (zT rfl rfl rfl (kS _) (zjq m k l (cuV m k l) (by omega) (by omega) (by omega) (by omega))) rfl rfl) (yl)
  ·obtain rfl:(17,[15,12,10,9,8,7,6,5,4,3,2,1,0,11,13,16])=c:=by injection Z
   refine yo rfl (yn (st0:=⟨[(45,.ptr 2000000 0 0 0),(46,.ptr 2000000 0 0 0),(47,.ptr 2000000 0 0 0),(48,.ptr 2000000 0 0 (0+0)),(49,mnA m),(50,iv k),(51,.ptr 2000000 0 0 0),(52,.ptr 2000000 0 0 0),(53,.ptr 2000000 0 0 (0+5)),(54,itsA l),(55,yc (cuV m k l)),(44,.tup [itsA (apV m k l (cuV m k l)),iv (apE m k l (cuV m k l))]),(57,itsA (apV m k l (cuV m k l))),(58,.ifb (β 14) (iv (apE m k l (cuV m k l)))),(59,.ptr 2000000 0 0 0),(60,.ptr 2000000 0 0 (0+5)),(0,.ptr 2000000 0 0 0),(3,iv k),(4,yc (cuV m k l)),(56,.tup [itsA (apV m k l (cuV m k l)),iv (apE m k l (cuV m k l))])],[(1000001,.hold vs [.ptr 2000000 0 0 0]),(2000000,.box [iv m.Max,iv m.Mod,iv m.Tem,iv m.Pro,yc r,itsA l,.own 2000001] 239),(2000001,.row intE (C) 3 1)]⟩) (yl) ?_);refine yC.imp (z6 rfl rfl rfl rfl TyK.h (by simp)) (yl)
  ·obtain rfl:(18,[16,15,13,12,11,10,9,8,7,6,5,4,3,2,1,0,17,14])=c:=by injection Z
   refine yo rfl (yn (st0:=⟨[(45,.ptr 2000000 0 0 0),(46,.ptr 2000000 0 0 0),(47,.ptr 2000000 0 0 0),(48,.ptr 2000000 0 0 (0+0)),(49,mnA m),(50,iv k),(51,.ptr 2000000 0 0 0),(52,.ptr 2000000 0 0 0),(53,.ptr 2000000 0 0 (0+5)),(54,itsA l),(55,yc (cuV m k l)),(44,.tup [itsA (apV m k l (cuV m k l)),iv (apE m k l (cuV m k l))]),(57,itsA (apV m k l (cuV m k l))),(58,iv (apE m k l (cuV m k l))),(59,.ptr 2000000 0 0 0),(60,.ptr 2000000 0 0 (0+5)),(0,.ptr 2000000 0 0 0),(3,iv k),(4,yc (cuV m k l)),(56,.tup [itsA (apV m k l (cuV m k l)),iv (apE m k l (cuV m k l))])],[(1000001,.hold vs [.ptr 2000000 0 0 0]),(2000000,.box [iv m.Max,iv m.Mod,iv m.Tem,iv m.Pro,yc r,itsA (apV m k l (cuV m k l)),.own 2000001] 239),(2000001,.row intE (C) 3 1)]⟩) (yl) ?_);refine yC.imp (yK (k8 yJ) rfl rfl) (yl)
  ·exact absurd Z (by simp)
 refine gd ?_ ?_<;>intro Q
 ·exact absurd V Q
 apply yk;apply ye;iterate 2 refine ya ?_
 refine ya ?_ (hs:=by exact yg rfl);iterate 3 refine ya ?_
 refine kK ?_;refine ya ?_ (hs:=by exact yg rfl);refine ya ?_;refine kK ?_;apply yG;refine yh ?_;refine kE ?_;refine zc8 (bD 2000001 2000012 rfl rfl) ?_;refine zkj.mk [(2,.fn 194 [])] [] (.inr rfl) (.one (.tmp rfl (kC ?_)));all_goals rfl
end Go.Rse
