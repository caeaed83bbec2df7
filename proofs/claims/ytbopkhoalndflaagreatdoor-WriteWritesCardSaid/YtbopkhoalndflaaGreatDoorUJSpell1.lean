/-
  Walks.
-/
import Derived.Test.YtbopkhoalndflaaGreatDoorUJFull1
import Derived.Test.YtbopkhoalndflaaGreatDoorUShelf0
import Derived.Sort.OwnSortedInts
set_option linter.all false
namespace Go.Rse
open Go Go.Proofs Go.Proofs.Tryz
section
attribute [local irreducible] Pur yA yC Ex X LeV LeB FnO It yH
attribute [local irreducible] Fn
def hzS:∀(I:Im)(j:Nat)c,(intE 0)[j]? =some c->RV I noNames c (.int .i64 0):=λI j c h=>by
 cases j with
 |zero=>simp[intE]at h;subst h;exact .int _ _
 |succ j=>simp[intE]at h
def bthE(m:Mn)(t:Tm):Int:=if ckM m=0 then ckT t else ckM m
def zrf{m:Mn}{t:Tm}(h:bthE m t=0):ckM m=0/\ckT t=0:=by
 unfold bthE at h;split at h
 ·exact⟨by assumption,h⟩
 ·exact absurd h (by assumption)
attribute [local irreducible] yy durT mulV mulE whQ whR whE yK bthE
def zlv(m:Mn)(t:Tm):Fn prog 166 [mnA m,tmA t] (iv (bthE m t)):=by
 refine kC func166 ntmps166 (λg w d=>?_);refine gc (za1 m) ?_;refine gd ?_ ?_<;>intro Z
 ·refine gq ?_;all_goals(unfold bthE;first|(rw[j3 Z];done)|(rw[j4 Z];done))
 refine gc (zcN t) ?_;all_goals(unfold bthE;first|(rw[j3 Z];done)|(rw[j4 Z];done))
def za0(m:Mn)(v:Int)(hm:ckM m=0)(Z:1<=v)(V:v<=8):Fn prog 206 [mnA m,iv v] (tmA (yy m v)):=by
 refine kC func206 ntmps206 (λg w d=>?_);refine gc (zaW hm Z V) ?_;refine kH (.one (.cellA rfl rfl rfl rfl ty83 (kB ?_)));all_goals rfl
def zcu(m:Mn)(v:Int)(hm:ckM m=0)(Z:1<=v)(V:v<=8):Fn prog 208 [mnA m,iv v] (.bool (decide (m.p v=3))):=by
 refine kC func208 ntmps208 (λg w d=>?_);refine gc (zfR hm Z V) ?_;all_goals rfl
def zdJ(t:Tm)(n q:Int):Fn prog 209 [tmA t,iv n,iv q] (tmsA [mulV t ⟨n,q⟩]):=by
 refine kC func209 ntmps209 (λg w d=>?_);refine gc (zeg t ⟨n,q⟩) ?_;refine yz tmE [mulV t ⟨n,q⟩] ?_;refine yi ?_;refine kE ?_;refine k8 (k9 (k:=18) rfl) ?_;refine gq ?_;all_goals rfl
def zeX(m:Mn)(v:Int)(hm:ckM m=0)(V:1<=v)(U:v<=8):Fn prog 213 [mnA m,iv v] (tmA (durT m v)):=by
 have Z:=zl8 m v;rw[znh hm V U,j4 rfl]at Z;refine kC func213 ntmps213 (λg w d=>?_);refine gc Z ?_;refine kH (.one (.cellA rfl rfl rfl rfl ty83 (kB ?_)));all_goals rfl
end
section
attribute [local irreducible] Pur yA yC Ex X Fn Imp LeV LeB FnO It yH
def lsL(m:Mn)(v:Int):Nat->Int->Tm->Bool->List Tm
 |0,k,t,b=>if b=true/\0<t.N then[t]else[]
 |n+1,k,t,b=>lsL m v n (k+1) t b++(if m.p k=3 then
  (if subE t (yy m (k+1))=0 then lsL m v n (k+1) (subV t (yy m (k+1))) true++
   (if v<k/\subE (subV t (yy m (k+1))) (yy m (k+1))=0 then lsL m v n (k+1) (subV (subV t (yy m (k+1))) (yy m (k+1))) true else[])else[])else[])
def lsT(m:Mn)(k:Int)(t:Tm):Nat->Tm
 |0=>t
 |j+1=>subV (lsT m k t j) (yy m (k+1))
def lsR(m:Mn)(v:Int)(n:Nat)(k:Int)(t:Tm)(b:Bool)(L:List Tm):Nat->List Tm
 |0=>L++lsL m v n (k+1) t b
 |j+1=>lsR m v n k t b L j++lsL m v n (k+1) (lsT m k t (j+1)) true
def zfq(m:Mn)(v:Int):∀(n:Nat)(k:Int)(t:Tm)(b:Bool),(lsL m v n k t b).length<=3^n
 |0,k,t,b=>by unfold lsL;split<;>simp
 |n+1,k,t,b=>by
  have h0:=zfq m v n (k+1) t b;have Z:=zfq m v n (k+1) (subV t (yy m (k+1))) true;have V:=zfq m v n (k+1) (subV (subV t (yy m (k+1))) (yy m (k+1))) true;have U:3^(n+1)=3^n*3:=Nat.pow_succ ..;unfold lsL;simp only[jI];split
  ·split
   ·simp only[jI];split
    ·omega
    ·simp;omega
   ·simp;omega
  ·simp;omega
def zlw(m:Mn)(v:Int)(n:Nat)(k:Int)(t:Tm)(b:Bool)(L:List Tm):∀j,(lsR m v n k t b L j).length<=L.length+(j+1)*3^n
 |0=>by have:=zfq m v n (k+1) t b;unfold lsR;simp;omega
 |j+1=>by
  have Z:=zlw m v n k t b L j;have V:=zfq m v n (k+1) (lsT m k t (j+1)) true;have U:(j+1+1)*3^n=(j+1)*3^n+3^n:=uZ ..;unfold lsR;simp only[jI];omega
def zw3{m:Mn}{v:Int}{n:Nat}{k:Int}{t:Tm}{b:Bool}{L:List Tm}(Z:¬m.p k=3):lsR m v n k t b L 0=L++lsL m v (n+1) k t b:=by
 simp only[lsR,lsL,j3 Z,w4]
def zzI{m:Mn}{v:Int}{n:Nat}{k:Int}{t:Tm}{b:Bool}{L:List Tm}(Z:m.p k=3)(h:¬subE (lsT m k t 0) (yy m (k+1))=0):lsR m v n k t b L 0=L++lsL m v (n+1) k t b:=by
 simp only[lsT]at h;simp only[lsR,lsL,j4 Z,j3 h,w4]
def zvl{m:Mn}{v:Int}{n:Nat}{k:Int}{t:Tm}{b:Bool}{L:List Tm}(Z:m.p k=3)(h0:subE (lsT m k t 0) (yy m (k+1))=0)(h:¬v<k\/¬subE (lsT m k t 1) (yy m (k+1))=0):lsR m v n k t b L 1=L++lsL m v (n+1) k t b:=by
 simp only[lsT]at h h0;simp only[lsR,lsL,lsT,j4 Z,j4 h0];rw[j3 (λe=>by rcases h with h|h;exact h e.1;exact h e.2)];simp
def zzJ{m:Mn}{v:Int}{n:Nat}{k:Int}{t:Tm}{b:Bool}{L:List Tm}(V:m.p k=3)(h0:subE (lsT m k t 0) (yy m (k+1))=0)(h:v<k)(Z:subE (lsT m k t 1) (yy m (k+1))=0):lsR m v n k t b L 2=L++lsL m v (n+1) k t b:=by
 simp only[lsT]at Z h0;simp only[lsR,lsL,lsT,j4 V,j4 h0,j4 (show v<k/\_ from⟨h,Z⟩)];simp
def wdL(m:Mn)(v:Int)(n:Nat):List Tm:=
 if n=1\/n=8 then[yy m v]
 else if n=2 then(if m.p v=3 then[]else[mulV (yy m v) ⟨3,2⟩])
 else if n=3 then lsL m v (5-v).toNat v (yy m v) false
 else if n=4 then(if v=1\/¬m.p (v-1)=3 then[]else[mulV (yy m v) ⟨2,1⟩])
 else if n=5 then[durT m v]
 else if n=6 then[mulV (durT m v) ⟨3,2⟩]
 else if n=7 then(if m.Pro=2/\v=4 then[⟨3,2⟩]else if m.Pro=2/\v=5 then[⟨1,2⟩]else[])
 else[]
def zvm:List AV:=[.bool false,.bool false,.bool false,.nilf,.bool false,.bool false,.bool false,.fn 205 [],.bool false,.bool false,.bool true,.fn 207 [],.bool false,.bool false,.bool false,.fn 210 [],.bool false,.bool false,.bool false,.fn 211 [],
 .bool false,.bool true,.bool false,.fn 212 [],.bool false,.bool true,.bool true,.fn 214 [],.bool false,.bool true,.bool false,.fn 215 [],.bool true,.bool false,.bool false,.fn 216 []]
attribute [local irreducible] yy durT mulV mulE subV subE
theorem zkU.imp{P:Program}{C:Ctx}{rv:List ResultVar}{r:AV}{vs:List Value}{cs:List AV}{Z:List (Nat×Blk)}{e:Exit}{st st':St}(hi:Imp C st st')(h:zkU P C rv r vs cs Z e st'):zkU P C rv r vs cs Z e st:=by
 obtain⟨V,ts,ex,U,T⟩:=h;exact⟨V,ts,ex,hi.trans U,T⟩
set_option maxHeartbeats 4000000 in
def zjf(m:Mn)(hm:ckM m=0)(v:Int)(n:Nat)(k:Int)(t:Tm)(b:Bool)(L:List Tm)(hn:(5-k).toNat=n)(E:1<=k)(h8:k<=8)(hL:L.length+3^n<=1000):FnO prog 265 [iv k,tmA t,.bool b,.ptr 2000000 0 0 0,.ptr 2000001 0 0 0,.ptr 2000002 0 0 0,.ptr 2000003 0 0 0] [(2000000,.box [.own 2000010] 50),(2000001,.box [.fn 265 [.ptr 2000000 0 0 0,.ptr 2000001 0 0 0,.ptr 2000002 0 0 0,.ptr 2000003 0 0 0]] 299),(2000002,.box (mnE m) 23),(2000003,.box [iv v] 3),(2000010,.row tmE (L) 83 2)] [2000000,2000001,2000002,2000003] (.tup []) [(2000000,.box [.own 2000011] 50),(2000001,.box [.fn 265 [.ptr 2000000 0 0 0,.ptr 2000001 0 0 0,.ptr 2000002 0 0 0,.ptr 2000003 0 0 0]] 299),(2000002,.box (mnE m) 23),(2000003,.box [iv v] 3),(2000011,.row tmE (L++lsL m v n k t b) 83 2)]:=by
 induction n using Nat.strongRecOn generalizing k t b L
 rename_i n ih;refine kW (ts:=[(0,iv k),(1,tmA t),(2,.bool b),(3,.ptr 2000000 0 0 0),(4,.ptr 2000001 0 0 0),(5,.ptr 2000002 0 0 0),(6,.ptr 2000003 0 0 0)]) (rv:=[]) (n:=67) (cs:=[.ptr 2000000 0 0 0,.ptr 2000001 0 0 0,.ptr 2000002 0 0 0,.ptr 2000003 0 0 0]) (by kernel_rfl) func265 rfl ntmps265 rfl rfl (by simp) rfl rfl rfl rfl (λg w d vs=>?_);refine gd ?_ ?_<;>intro xT
 ·have I:n=0:=by omega
  subst I;apply yf;apply ye;refine ya ?_;refine kG 1 ?_;refine yn ?_;iterate 3 refine kF ?_
  refine gf ?_ ?_<;>intro T
  ·have Z:L++[t]=L++lsL m v 0 k t b:=by unfold lsL;rw[j4 T]
   refine gq ?_;refine yz tmE [⟨_,_⟩] ?_;(iterate 2 refine kI ?_);apply kL;refine kE ?_;refine zkU.imp (bD 2000010 2000011 rfl rfl) ?_;refine zkU.mk [] [] (.inr rfl) (.many (by decide) .nil);all_goals rfl
  ·have Z:L=L++lsL m v 0 k t b:=by
    unfold lsL;rw[j3 (λe=>by rcases T with h|h;rw[e.1]at h;cases h;omega)];simp
   apply yl;refine kE ?_;refine zkU.imp (bD 2000010 2000011 rfl rfl) ?_;refine zkU.mk [] [] (.inr rfl) (.many (by decide) .nil);all_goals rfl
 obtain⟨q,rfl⟩:∃q,n=q+1:=⟨n-1,by omega⟩;have h3:3^(q+1)=3^q*3:=Nat.pow_succ ..;refine gq ?_;refine zai [(2000000,2000000),(2000001,2000001),(2000002,2000002),(2000003,2000003),(2000010,2000010),(2000011,2000012)] (ih q (by omega) (k+1) (t) b (L) (by omega) (by omega) (by omega) (by omega)) ?_;refine gc (zcu m k hm E h8) ?_;refine gd ?_ ?_<;>intro Q
 ·have Z:=zw3 (v:=v) (n:=q) (t:=t) (b:=b) (L:=L) Q;refine kE ?_;refine zkU.imp (bD 2000012 2000011 rfl rfl) ?_;refine zkU.mk [] [] (.inr rfl) (.many (by decide) .nil);all_goals rfl
 have J:m.p k=3:=Q;refine gq ?_;refine yM (za0 m (k+1) hm (by omega) (by omega)) ?_;refine zb ?_;refine kI ?_;apply yG;refine yi ?_;apply kA;refine zV (λj=>[(0,iv k),(3,.ptr 2000000 0 0 0),(4,.ptr 2000001 0 0 0),(5,.ptr 2000002 0 0 0),(6,.ptr 2000003 0 0 0),(8,.ptr 8 0 0 0),(10,.ptr 10 0 0 0),(11,iv (1+(j:Int)))]) (λj=>[(1000001,.hold vs [.ptr 2000000 0 0 0,.ptr 2000001 0 0 0,.ptr 2000002 0 0 0,.ptr 2000003 0 0 0]),(2000000,.box [.own 2000012] 50),(2000001,.box [.fn 265 [.ptr 2000000 0 0 0,.ptr 2000001 0 0 0,.ptr 2000002 0 0 0,.ptr 2000003 0 0 0]] 299),(2000002,.box (mnE m) 23),(2000003,.box [iv v] 3),(2000012,.row tmE (lsR m v q k t b L j) 83 2),(8,.box (tmE (lsT m k t j)) 83),(10,.box (tmE (yy m (k+1))) 83)]) (λj=>j<=2/\(∀i,i<j->subE (lsT m k t i) (yy m (k+1))=0)/\(j=2->v<k)) 2 (λj hk=>?_) (hJ:=by exact⟨by omega,λi hi=>by omega,λh=>by omega⟩);obtain⟨x4,hJ,h2⟩:=hk;apply yf;apply ye;iterate 2 refine ya ?_
 refine kG 2 ?_;refine yn ?_;iterate 7 refine kF ?_
 refine gf ?_ ?_<;>intro x3
 ·have V:j=0\/(j=1/\v<k):=by omega
  have H:(lsR m v q k t b L j).length+3^q<=1000:=by
   rcases V with rfl|⟨rfl,_⟩
   ·have:=zlw m v q k t b L 0;omega
   ·have:=zlw m v q k t b L 1;omega
  refine gc (zda (lsT m k t j) (yy m (k+1))) ?_;refine gd ?_ ?_<;>intro U
  ·have Z:lsR m v q k t b L j=L++lsL m v (q+1) k t b:=by
    rcases V with rfl|⟨rfl,x2⟩
    ·exact zzI J U
    ·exact zvl J (hJ 0 (by omega)) (.inr U)
   refine kE ?_;refine zkU.imp (bD 2000012 2000011 rfl rfl) ?_;refine zkU.mk [] [] (.inr rfl) (.many (by decide) .nil);all_goals rfl
  refine gq ?_;refine zai [(2000000,2000000),(2000001,2000001),(2000002,2000002),(2000003,2000003),(2000010,2000012),(2000011,2000013)] (ih q (by omega) (k+1) (lsT m k t (j+1)) true (lsR m v q k t b L j) (by omega) (by omega) (by omega) H) ?_;apply kL;refine kJ (st':=⟨[(0,iv k),(3,.ptr 2000000 0 0 0),(4,.ptr 2000001 0 0 0),(5,.ptr 2000002 0 0 0),(6,.ptr 2000003 0 0 0),(8,.ptr 8 0 0 0),(10,.ptr 10 0 0 0),(11,iv (1+(j:Int)))],[(1000001,.hold vs [.ptr 2000000 0 0 0,.ptr 2000001 0 0 0,.ptr 2000002 0 0 0,.ptr 2000003 0 0 0]),(2000000,.box [.own 2000013] 50),(2000001,.box [.fn 265 [.ptr 2000000 0 0 0,.ptr 2000001 0 0 0,.ptr 2000002 0 0 0,.ptr 2000003 0 0 0]] 299),(2000002,.box (mnE m) 23),(2000003,.box [iv v] 3),(2000013,.row tmE (lsR m v q k t b L (j+1)) 83 2),(8,.box (tmE (lsT m k t (j+1))) 83),(10,.box (tmE (yy m (k+1))) 83)]⟩) yg ?_;refine kJ (bD 2000013 2000012 rfl rfl) ?_;refine gq ?_
  refine yo (j+1) (hJ:=by
   refine⟨by omega,λi hi=>?_,λh=>by omega⟩;rcases wD i j with h|h
   ·exact hJ i h
   ·rw[show i=j by omega];exact U) (hI:=yg)
 ·have N:(j=1/\¬v<k)\/j=2:=by omega
  have Z:lsR m v q k t b L j=L++lsL m v (q+1) k t b:=by
   rcases N with⟨rfl,h⟩|rfl
   ·exact zvl J (hJ 0 (by omega)) (.inl h)
   ·exact zzJ J (hJ 0 (by omega)) (h2 rfl) (hJ 1 (by omega))
  apply kK;refine zkU.imp (bD 2000012 2000011 rfl rfl) ?_;refine zkU.mk [] [] (.inl rfl) (.many (by decide) .nil);all_goals rfl
def zlx(m:Mn)(v:Int)(hm:ckM m=0)(Z:1<=v)(V:v<=8):Fn prog 210 [mnA m,iv v] (tmsA (wdL m v 3)):=by
 have U:3^(5-v).toNat<=3^4:=vJ (by decide) (by omega);have T:3^4=81:=rfl;refine kC func210 ntmps210 (λg w d=>?_);refine gq ?_;refine zcK ?_;refine ya ?_;apply yG;refine zb ?_;apply yG;refine zb ?_;apply yG;refine ya ?_;refine kI ?_;apply kL;apply yf;refine kJ (zbp tmE 83 2 5 20 50 rfl rfl) ?_;refine yQ [8,9,10,11,12] [0,0,0,0,12,31] mo ?_;iterate 4 refine yb ?_
 refine yI (za0 m v hm Z V) ?_;refine yx ?_;refine zai [(2000000,5),(2000001,6),(2000002,2),(2000003,3),(2000010,20),(2000011,21)] (zjf m hm v (5-v).toNat v (yy m v) false [] rfl Z V (by simp;omega)) ?_;apply yG;refine yL ?_;refine kE ?_;refine k8 (k9 (k:=21) rfl) ?_;refine gq ?_;all_goals(first|rfl|(simp[wdL, *];done)|(simp[wdL, *];rfl)|(simp[wdL];omega))
def zjg(m:Mn)(v:Int)(hm:ckM m=0)(Z:1<=v)(V:v<=8):Fn prog 205 [mnA m,iv v] (tmsA (wdL m v 1)):=by
 refine kC func205 ntmps205 (λg w d=>?_);refine gq ?_;refine yM (za0 m v hm Z V) ?_;refine yz tmE [yy m v] ?_;refine yi ?_;refine kE ?_;refine k8 (k9 (k:=8) rfl) ?_;refine gq ?_;all_goals(first|rfl|(simp[wdL, *];done)|(simp[wdL, *];rfl)|(simp[wdL];omega))
def zjh(m:Mn)(v:Int)(hm:ckM m=0)(Z:1<=v)(V:v<=8):Fn prog 207 [mnA m,iv v] (tmsA (wdL m v 2)):=by
 refine kC func207 ntmps207 (λg w d=>?_);refine gc (zcu m v hm Z V) ?_;refine gd ?_ ?_<;>intro U
 ·apply ye;refine yi ?_;refine kE ?_;refine k8 (yd (ts:=[(4,tmsA [])]) (hs:=[])) ?_;refine gq ?_;all_goals(first|rfl|(simp[wdL, *];done)|(simp[wdL, *];rfl)|(simp[wdL];omega))
 refine gq ?_;refine yM (za0 m v hm Z V) ?_;refine gc (zdJ (yy m v) 3 2) ?_;all_goals(simp[wdL, *])
def zji(m:Mn)(v:Int)(hm:ckM m=0)(Z:1<=v)(V:v<=8):Fn prog 211 [mnA m,iv v] (tmsA (wdL m v 4)):=by
 refine kC func211 ntmps211 (λg w d=>?_);apply ye;refine zZ ?_;refine yi ?_;apply yf;apply ye;iterate 2 refine ya ?_
 refine kG 2 ?_;refine gq ?_;refine ExF.cp (p:=¬v=1) (λU=>zcu m (v-1) hm (by omega) (by omega)) ?_;refine kF ?_;refine gf ?_ ?_<;>intro T
 ·apply ye;refine yi ?_;refine kE ?_;refine k8 (yd (ts:=[(4,tmsA [])]) (hs:=[])) ?_;refine gq ?_;all_goals(first|rfl|(simp[wdL, *];done)|(simp[wdL, *];rfl)|(simp[wdL];omega))
 refine gq ?_;refine yM (za0 m v hm Z V) ?_;refine gc (zdJ (yy m v) 2 1) ?_;all_goals(simp[wdL, *])
def zjj(m:Mn)(v:Int)(hm:ckM m=0)(Z:1<=v)(V:v<=8):Fn prog 212 [mnA m,iv v] (tmsA (wdL m v 5)):=by
 refine kC func212 ntmps212 (λg w d=>?_);refine gq ?_;refine yM (zeX m v hm Z V) ?_;refine yz tmE [durT m v] ?_;refine yi ?_;refine kE ?_;refine k8 (k9 (k:=8) rfl) ?_;refine gq ?_;all_goals(first|rfl|(simp[wdL, *];done)|(simp[wdL, *];rfl)|(simp[wdL];omega))
def zjk(m:Mn)(v:Int)(hm:ckM m=0)(Z:1<=v)(V:v<=8):Fn prog 214 [mnA m,iv v] (tmsA (wdL m v 6)):=by
 refine kC func214 ntmps214 (λg w d=>?_);refine gq ?_;refine yM (zeX m v hm Z V) ?_;refine gc (zdJ (durT m v) 3 2) ?_;all_goals(simp[wdL, *])
def zjl(m:Mn)(v:Int)(hm:ckM m=0)(T:1<=v)(Q:v<=8):Fn prog 215 [mnA m,iv v] (tmsA (wdL m v 7)):=by
 refine kC func215 ntmps215 (λg w d=>?_);apply ye;refine zZ ?_;refine yi ?_;apply yf;apply kA;apply ye;iterate 3 refine ya ?_
 refine kG 3 ?_;refine yn ?_;iterate 2 refine kF ?_
 refine gf ?_ ?_<;>intro V
 ·refine gq ?_;refine yz tmE [⟨3,2⟩] ?_;refine yi ?_;refine kE ?_;refine k8 (k9 (k:=14) rfl) ?_;refine gq ?_;all_goals(first|rfl|exact zE Z|(simp[wdL, *];done)|(simp[wdL, *];rfl)|(simp[wdL];omega))
 apply ye;iterate 3 refine ya ?_
 refine kG 3 ?_;refine yn ?_;iterate 2 refine kF ?_
 refine gf ?_ ?_<;>intro U
 ·refine gq ?_;refine yz tmE [⟨1,2⟩] ?_;refine yi ?_;refine kE ?_;refine k8 (k9 (k:=24) rfl) ?_;refine gq ?_;all_goals(first|rfl|exact zE Z|(simp[wdL, *];done)|(simp[wdL, *];rfl)|(simp[wdL];omega))
 have Z:wdL m v 7=[]:=by
  have e:wdL m v 7=(if m.Pro=2/\v=4 then[⟨3,2⟩]else if m.Pro=2/\v=5 then[⟨1,2⟩]else[]):=rfl;rw[e,j3 (by omega),j3 (by omega)]
 apply yl;apply ye;refine yi ?_;refine kE ?_;refine k8 (yd (ts:=[(4,tmsA [])]) (hs:=[])) ?_;refine gq ?_;all_goals(first|rfl|exact zE Z|(simp[wdL, *];done)|(simp[wdL, *];rfl)|(simp[wdL];omega))
def zjm(m:Mn)(v:Int)(hm:ckM m=0)(Z:1<=v)(V:v<=8):Fn prog 216 [mnA m,iv v] (tmsA (wdL m v 8)):=by
 refine kC func216 ntmps216 (λg w d=>?_);refine gq ?_;refine yM (za0 m v hm Z V) ?_;refine yz tmE [yy m v] ?_;refine yi ?_;refine kE ?_;refine k8 (k9 (k:=8) rfl) ?_;refine gq ?_;all_goals(first|rfl|(simp[wdL, *];done)|(simp[wdL, *];rfl)|(simp[wdL];omega))
def zly:Fn prog 167 [] (.agg zvm):=by
 refine kC func167 ntmps167 (λg w d=>?_);refine gq ?_;refine kH (.one (.cellA rfl rfl rfl rfl zvH (kB ?_)));all_goals rfl
end
section
def zmF{I:Im}{l:List Int}{xs:List Value}(hl:xs.length=l.length*1)(h:∀(i:Nat)(x:Int)(j:Nat)(c:AV)(v:Value),l[i]? =some x->(intE x)[j]? =some c->xs[i*1+j]? =some v->RV I noNames c v):xs=l.map (Value.int .i64):=by
 apply uW;intro i;rw[jJ];cases hx:l[i]? with
 |none=>
  have:l.length<=i:=by simpa using hx
  rw[wT (by omega)];rfl
 |some x=>
  have Z:i<xs.length:=by have:=(j1.1 hx).1;omega
  have hv:=h i x 0 (iv x) xs[i] hx rfl (by simp[lgg Z]);rw[lgg Z,yW hv];rfl
def zrg{I:Im}{l:List Int}:∀(i:Nat)(x:Int)(j:Nat)(c:AV)(v:Value),l[i]? =some x->(intE x)[j]? =some c->(l.map (Value.int .i64))[i*1+j]? =some v->RV I noNames c v:=λi x j c v hx Z hv=>by
 cases j with
 |zero=>
  simp[intE]at Z;simp[hx]at hv;subst Z;subst hv;exact .int _ _
 |succ j=>simp[intE]at Z
def zoI{d:Nat}{ρ ρ':Nat->Value}{I:Im}{O:Owns}{w w':World}{E:TypeId}{l l':List Int}{b:Nat}(Z:Sat (C0 0 d ⟨ρ,I,O⟩ w) [(2000000,.row intE l E 1)] ⟨ρ,I,O⟩ w)(hρ:∀n,n≠2000000->ρ' n=ρ n)(H:yX (ρ 2000000)=some b)(Q:yX (ρ' 2000000)=some b)
 (hm:w.grownBy w' (some b))(N:w.drawn<=w'.drawn)(hw:w'.ownsRow 0 E 1 (ρ' 2000000) l'.length (l'.map (Value.int .i64))):
 Sat (C0 0 d ⟨ρ,I,O⟩ w) [(2000000,.row intE l' E 1)] ⟨ρ',I,O⟩ w'/\Ext (C0 0 d ⟨ρ,I,O⟩ w) ⟨ρ',I,O⟩ w':=by
 have V:Rel (C0 0 d ⟨ρ,I,O⟩ w) ⟨[],[(2000000,.row intE l E 1)]⟩ ⟨ρ,I,O⟩ {tmps:= #[],defers:=[]} w:=⟨rfl,Dfs.nil _ _ _,λt x h=>by simp[lk]at h,Z,⟨bA _,rfl,rfl,rfl,jE _,jE _,λ_ _ _ _=>⟨rfl,rfl⟩,λb y n _ hy=>⟨n,hy⟩⟩⟩;obtain⟨xs,xT,h1,h2,h3⟩:=Z.blk 2000000 _ rfl;have J:=h3 b H
 have hr:=V.modifyR (g':=⟨ρ',I,O⟩) (k:=2000000) (bo:=some b) (B:=.row intE l' E 1) (d:=none) (x:=.any) (v:=.nilIface) rfl hρ (λ_ _=>rfl) (λb' e=>by injection e with e;subst e;exact J) hm N (Z.ob.up (bA _) hm.size) rfl (.any _)
  ⟨l'.map (Value.int .i64),hw,λi x _=>rfl,zrg,λb' U=>by
   have:b'=b:=by rw[Q]at U;simpa using U.symm
   subst this;exact J⟩
 refine⟨⟨hr.sat.im,hr.sat.ob,λk B T=>hr.sat.blk k B ?_⟩,hr.ext⟩;simp only[yp]at T⊢;cases hk:Nat.beq 2000000 k<;>simp[hk]at T⊢
 ·simp[lk]at T
 ·exact T
def srtI(l:List Int):List Int:=l.mergeSort λx y=>decide (x<=y)
def zg4(l:List Int):(srtI l).length=l.length:=List.length_mergeSort l
def zoJ{I:Im}{ρ:Nat->Value}{k:Nat}{args:List Value}(h:RVL I ρ [.own k] args):args=[ρ k]:=by
 obtain⟨hl,hv⟩:=h
 match args,hl with
 |[v],_=>rw[z7 (hv 0 _ v rfl rfl)]
def zeC(l:List Int)(hl:l.length<=4000000000):FnO prog 235 [.own 2000000] [(2000000,.row intE l 3 1)] [2000000] (.tup []) [(2000000,.row intE (srtI l) 3 1)]:=by
 refine⟨by kernel_rfl,λd ρ I O w args Z V=>?_⟩;rw[zoJ V];obtain⟨xs,hw,h1,h2,h3⟩:=Z.blk 2000000 _ rfl;have N:=zmF hw.1 h2;rcases hw.2 with⟨hv,h0⟩|⟨b,cap,cur,hv,J,H,E,xT,T,x4⟩
 ·have hv:ρ 2000000=.slice none 0 0:=hv;have x3:l=[]:=jQ h0;subst x3;have e0:srtI []=[]:=by simp[srtI]
  rw[hv,e0];refine Calls.mono (Tryz.slices_Sort_int_none none 0 w) ?_
  rintro e w'⟨rfl,rfl⟩
  exact⟨_,ρ,I,O,rfl,Z,.tup [] [] rfl (λj c v h=>by simp at h),⟨bA _,rfl,rfl,rfl,jE _,jE _,λ_ _ _ _=>⟨rfl,rfl⟩,λb y n _ hy=>⟨n,hy⟩⟩,λ_ _=>rfl⟩
 ·have hv:ρ 2000000=.slice (some ⟨b,0,none⟩) l.length cap:=hv;rw[hv];have U:=holds_of_blockI (ss:=l) H (by rw[←N,←x4];simp);refine Calls.mono (Tryz.slices_Sort_int b 0 cap l w U (za H) (by omega)) ?_
  rintro e w'⟨rfl,n,os,rfl⟩
  have Q:=ownsRow_sortedI (n:=n) (os:=os) (base:=0) (ss:=l) (ts:=srtI l) (zg4 l) J H E xT (by simpa using T);obtain⟨s1,s2⟩:=zoI (ρ':=ρ) (l':=srtI l) Z (λ_ _=>rfl) (by rw[hv];rfl) (by rw[hv];rfl) (grownBy_sortedI (n:=n) (os:=os) (srtI l).toArray) (by show w.drawn<=w.drawn+n;omega) (by rw[hv,zg4];exact Q);exact⟨_,ρ,I,O,rfl,s1,.tup [] [] rfl (λj c v h=>by simp at h),s2,λ_ _=>rfl⟩
def zdK(l:List Int)(hl:l.length<=4000000000):FnO prog 236 [.own 2000000] [(2000000,.row intE l 3 1)] [] (.own 2000000) [(2000000,.row intE (Lib.compact l) 3 1)]:=by
 refine⟨by kernel_rfl,λd ρ I O w args Z U=>?_⟩;rw[zoJ U];obtain⟨xs,hw,h1,h2,h3⟩:=Z.blk 2000000 _ rfl;have E:=zmF hw.1 h2;rcases hw.2 with⟨hv,h0⟩|⟨b,cap,cur,hv,xT,hh,Q,x4,N,x3⟩
 ·have hv:ρ 2000000=.slice none 0 0:=hv;have x2:l=[]:=jQ h0;subst x2;have e0:Lib.compact ([]:List Int)=[]:=rfl;rw[hv,e0];refine Calls.mono (Tryz.slices_Compact_int_empty none 0 w) ?_
  rintro e w'⟨rfl,rfl⟩
  exact⟨_,ρ,I,O,rfl,Z,.own _ _ _ _ hv,⟨bA _,rfl,rfl,rfl,jE _,jE _,λ_ _ _ _=>⟨rfl,rfl⟩,λb y n _ hy=>⟨n,hy⟩⟩,λ_ h=>by simp at h⟩
 ·have hv:ρ 2000000=.slice (some ⟨b,0,none⟩) l.length cap:=hv;rw[hv];have T:=holds_of_blockI (ss:=l) hh (by rw[←E,←x3];simp);refine Calls.mono (Tryz.slices_Compact_int b 0 cap l w T (by omega) Q) ?_
  rintro e w'⟨rfl,n,rfl⟩
  have x1:(Lib.compact l).length<=l.length:=Lib.compact_length_le l;have V:=ownsRow_sortedI (n:=n) (os:= #[]) (base:=0) (ss:=l) (ts:=Lib.compact l++List.replicate (l.length-(Lib.compact l).length) 0) (by simp;omega) xT hh Q x4 (by simpa using N);have J:=grownBy_sortedI (w:=w) (g:=b) (n:=n) (os:= #[]) (Lib.compact l++List.replicate (l.length-(Lib.compact l).length) 0).toArray;rw[Sort.grow_empty]at V J
  obtain⟨s1,s2⟩:=zoI (ρ':=λk=>if k=2000000 then .slice (some ⟨b,0,none⟩) (Lib.compact l).length cap else ρ k) (l':=Lib.compact l) Z (λk hk=>by simp[hk]) (by rw[hv];rfl) (by simp[yX]) J (by show w.drawn<=w.drawn+n;omega) (by
   refine⟨by simp,?_⟩;rcases V.2 with⟨h,_⟩|⟨g',cap',cur',H,x0,w2,v4,v9,v8,v5⟩
   ·simp at h
   ·simp at H;obtain⟨rfl,rfl⟩:=H;refine .inr ⟨b,cap,cur',by simp,x0,w2,by omega,v9,v8,?_⟩;have:=j6 (List.take ((Lib.compact l).length*1)) v5;rw[List.take_take]at this;simp only[Nat.mul_one,xD]at this⊢;rw[xS x1]at this;rw[this,wW (by simp),wI (by simp)])
  exact⟨_,_,I,O,rfl,s1,.own _ _ _ _ (by simp),s2,λ_ h=>by simp at h⟩
end
section
attribute [local irreducible] Pur yA yC Ex X Fn Imp LeV LeB FnO It yH
def fidx(p:Int->Bool)(l:List Int):Int:=if l.findIdx p<l.length then(l.findIdx p:Int)else-1
def zmG{p:Int->Bool}{l:List Int}{k:Nat}{v:Int}(hv:l[k]? =some v)(V:p v=true)(hJ:∀i u,i<k->l[i]? =some u->p u=false):fidx p l=k:=by
 have Z:k<l.length:=(j1.1 hv).1;have U:l[k]=v:=(j1.1 hv).2;have:l.findIdx p=k:=(List.findIdx_eq Z).2 ⟨by rw[U];exact V,λj T=>hJ j _ T (lgg (by omega))⟩;unfold fidx;rw[this,j4 Z]
def zkA{p:Int->Bool}{l:List Int}(hJ:∀i u,i<l.length->l[i]? =some u->p u=false):fidx p l=-1:=by
 have:l.findIdx p=l.length:=uF.2 λx hx=>by
  obtain⟨i,hi⟩:=jS.1 hx;simpa using hJ i x (j1.1 hi).1 hi
 unfold fidx;rw[j3 (by omega)]
def zdc(l:List Int)(hl:l.length<=4000000000)(fp:FuncId)(caps:List AV)(p:Int->Bool)(T:AV.nm.nmL caps=true)(Q:∀v,v∈l->Fn prog fp ([iv v]++caps) (.bool (p v))):FnO prog 278 [.own 2000000,.fn fp caps] [(2000000,.row intE l 3 1)] [2000000] (iv (fidx p l)) [(2000000,.row intE l 3 1)]:=by
 refine bB (ts:=[(0,.own 2000000),(1,.fn fp caps)]) (rv:=[.tmp 4]) (n:=19) (cs:=[.own 2000000]) (by kernel_rfl) func278 rfl ntmps278 rfl rfl (by simp) rfl rfl rfl rfl (λg w d vs=>?_);apply ye;refine yi ?_;apply yf;apply ye;refine yq ?_;apply kA;refine zV (λk=>[(0,.own 2000000),(1,.fn fp caps),(7,iv l.length),(8,iv k)]) (λk=>[(1000001,.hold vs [.own 2000000]),(2000000,.row intE l 3 1)]) (λk=>k<=l.length/\∀i u,i<k->l[i]? =some u->p u=false) l.length (λk N=>?_) (hJ:=by exact⟨by omega,λi u h=>absurd h (wU i)⟩) (h0:=yd);obtain⟨J,Z⟩:=N;refine gd ?_ ?_<;>intro I
 ·obtain⟨v,hv⟩:∃v,l[k]? =some v:=⟨_,lgg (by omega)⟩;have H:l[(k:Int).toNat]? =some v:=by simpa using hv
  apply yl;apply yf;apply kA;apply ye;iterate 2 refine ya ?_
  apply yG;iterate 5 refine ya ?_
  refine Ex.call rfl rfl (by simpa[AV.nm.nmL,AV.nm]using T) (Q v (j5 hv)) rfl ?_;refine gd ?_ ?_<;>intro V
  ·have he:=zmG hv V Z;apply ye;refine yL ?_;refine kE ?_;rw[he];refine zo8.mk (ts:=[(4,iv k)]) (.inr rfl) (yd) (.one (.tmp rfl (kB rfl)))
  refine gq ?_
  refine yo (k+1) (hJ:=by
   refine⟨by omega,λi u hi U=>?_⟩;rcases wA.1 hi with h|h
   ·exact Z i u h U
   ·subst h;rw[hv]at U;injection U with U;subst U;exact V)
 ·have he:=zkA (p:=p) (l:=l) λi u hi=>Z i u (by omega)
  apply kK;apply ye;refine yi ?_;refine kE ?_;rw[he];refine zo8.mk (ts:=[(4,iv (-1))]) (.inr rfl) (yd) (.one (.tmp rfl (kB rfl)))
def zw4{L:List Nat}{x:AV}(h:x.nm=true):ok1 L x=true:=by
 cases x<;>first|exact h|(simp[AV.nm]at h)
def ztk{μ:List (Nat×Nat)}{x:AV}(h:x.nm=true):ren1 μ x=x:=by
 cases x<;>first|rfl|(simp[AV.nm]at h)
def zoK{cs:List AV}(h:AV.nm.nmL cs=true):∀x∈cs,x.nm=true:=λx hx=>by
 obtain⟨j,Z⟩:=jS.1 hx;exact zq h Z
def zzK{L:List Nat}{f:FuncId}{caps:List AV}(h:AV.nm.nmL caps=true):AV.okN L (.fn f caps)=true:=
 jF.2 λx hx=>zw4 (zoK h x hx)
def zw5{μ:List (Nat×Nat)}{f:FuncId}{caps:List AV}(h:AV.nm.nmL caps=true):AV.fn f caps=AV.ren μ (.fn f caps):=by
 have:caps.map (ren1 μ)=caps:=by
  have Z:caps.map (ren1 μ)=caps.map id:=uX λx hx=>ztk (zoK h x hx)
  simpa using Z
 show AV.fn f caps=AV.fn f (caps.map (ren1 μ));rw[this]
def dl(p:Int->Bool)(l:List Int):List Int:=l.filter λv=>!p v
def zlz{p:Int->Bool}{l:List Int}{k:Nat}{v:Int}(h:l[k]? =some v):dl p (l.take (k+1))=dl p (l.take k)++(if p v=true then[]else[v]):=by
 have:l.take (k+1)=l.take k++[v]:=by rw[jA,h];rfl
 rw[dl,this,wR];cases Z:p v<;>simp[dl,Z]
def znD(p:Int->Bool)(l:List Int):(fidx p l=-1/\dl p l=l)\/∃(k:Nat)(v:Int),fidx p l=(k:Int)/\l[k]? =some v/\p v=true/\dl p (l.take k)=l.take k:=by
 unfold fidx;split
 ·rename_i h;refine .inr ⟨l.findIdx p,l[l.findIdx p],rfl,lgg h,List.findIdx_getElem (w:=h),?_⟩;refine x7.2 λx hx=>?_
  obtain⟨i,hi⟩:=jS.1 hx;rw[w8]at hi;split at hi
  ·rename_i Z;have:=List.not_of_lt_findIdx Z;have V:l[i]=x:=(j1.1 hi).2;rw[V]at this;simpa using this
  ·simp at hi
 ·rename_i h;refine .inl ⟨rfl,x7.2 λx hx=>?_⟩;have U:l.findIdx p=l.length:=Nat.le_antisymm List.findIdx_le_length (by omega);have:=(uF.1 U) x hx;simpa using this
def zcO(l:List Int)(hl:l.length<=4000000000)(fp:FuncId)(caps:List AV)(p:Int->Bool)(H:AV.nm.nmL caps=true)(hp:∀v,v∈l->Fn prog fp ([iv v]++caps) (.bool (p v))):FnO prog 232 [.own 2000000,.fn fp caps] [(2000000,.row intE l 3 1)] [] (.own 2000000) [(2000000,.row intE (dl p l) 3 1)]:=by
 have Q:=znD p l;refine bB (ts:=[(0,.own 2000000),(1,.fn fp caps)]) (rv:=[.tmp 4]) (n:=42) (cs:=[]) (by kernel_rfl) func232 rfl ntmps232 rfl rfl (by simp) rfl rfl rfl rfl (λg w d vs=>?_);apply ye;refine ya ?_;apply yG;iterate 2 refine ya ?_
 refine zbA [(2000000,2000000)] (zdc l hl fp caps p H hp) rfl rfl rfl (.cons (kU _) (.cons (kB (zw5 H)) .nil)) (by simp only[x8,List.all_nil,zzK H,Bool.and_true];rfl) rfl ⟨⟨_,_,rfl,rfl,kT _,rfl⟩,trivial⟩ rfl rfl rfl rfl ?_;refine gd ?_ ?_<;>intro v9
 ·apply ye;refine yL ?_;refine kE ?_;have he:=(Q.resolve_right (λ⟨k,_,h,_⟩=>by omega)).2;have E:l=dl p l:=he.symm;refine zo8.mk (ts:=[(4,.own 2000000)]) (.inr rfl) (yd) (.one (.tmp rfl (kB rfl)))
 obtain⟨k0,v0,v8,N,xT,x4⟩:=Q.resolve_left (λh=>by omega);have x0:k0<l.length:=(j1.1 N).1;have J:dl p (l.take (k0+1))=l.take k0:=by rw[zlz N,j4 xT,x4,w4]
 have x3:(dl p (l.take (k0+1))).length=k0:=by rw[J,jL];omega
 have U:l=dl p (l.take (k0+1))++l.drop (dl p (l.take (k0+1))).length:=by rw[x3,J,w5]
 refine gq ?_
 refine zcw (ι:=Nat) (λ(k:Nat)=>[(0,.own 2000000),(1,.fn fp caps),(5,iv ((dl p (l.take k)).length:Int)),(6,iv (k:Int))]) (λ(k:Nat)=>[(1000001,.hold vs []),(2000000,.row intE (dl p (l.take k)++l.drop (dl p (l.take k)).length) 3 1)]) (λ(k:Nat)=>k<=l.length/\(dl p (l.take k)).length<k) (λ(k:Nat)=>l.length-k) (k0+1) (λk hk=>?_) (hJ:=by exact⟨by omega,by omega⟩) (h0:=by
  refine bC ⟨⟨_,rfl,kU _⟩,⟨_,rfl,kU _⟩,⟨_,rfl,kB (j6 (AV.int .i64) (by omega))⟩,⟨_,rfl,kB (j6 (AV.int .i64) (by omega))⟩,trivial⟩ ⟨⟨_,rfl,kT _⟩,⟨_,rfl,kZ U⟩,trivial⟩)
 obtain⟨v5,v4⟩:=hk;have v3:(dl p (l.take k)++l.drop (dl p (l.take k)).length).length=l.length:=by simp;omega
 refine gd ?_ ?_<;>intro v1
 ·obtain⟨v,hv⟩:∃v,l[k]? =some v:=⟨_,lgg (by omega)⟩
  have u3:(dl p (l.take k)++l.drop (dl p (l.take k)).length)[(k:Int).toNat]? =some v:=by
   rw[wC,wK (by omega),w7,show(dl p (l.take k)).length+(k-(dl p (l.take k)).length)=k by omega];exact hv
  apply yl;apply yf;apply kA;apply ye;iterate 5 refine ya ?_
  apply yG;iterate 2 refine ya ?_
  refine Ex.call rfl rfl (by simpa[AV.nm.nmL,AV.nm]using H) (hp v (j5 hv)) rfl ?_;refine gd ?_ ?_<;>intro I
  ·have Z:dl p (l.take (k+1))=dl p (l.take k)++[v]:=by rw[zlz hv,j3 (by simp[I])]
   have V:(dl p (l.take (k+1))).length=(dl p (l.take k)).length+1:=by rw[Z];simp
   have T:(dl p (l.take k)++l.drop (dl p (l.take k)).length).set (((dl p (l.take k)).length:Nat):Int).toNat v=dl p (l.take (k+1))++l.drop (dl p (l.take (k+1))).length:=by
    rw[V,Z,wC,vR _ _ (jE _),xV];have h9:(l.drop (dl p (l.take k)).length).set 0 v=v::l.drop ((dl p (l.take k)).length+1):=by rw[jG (show(dl p (l.take k)).length<l.length by omega)];rfl
    rw[h9];simp
   refine gq ?_
   refine yo (k+1) (hJ:=by
    refine⟨by omega,?_⟩;rw[V];omega)
  ·have Z:dl p (l.take (k+1))=dl p (l.take k):=by rw[zlz hv,j4 (by simpa using I),w4]
   have V:(dl p (l.take (k+1))).length=(dl p (l.take k)).length:=by rw[Z]
   have T:dl p (l.take k)++l.drop (dl p (l.take k)).length=dl p (l.take (k+1))++l.drop (dl p (l.take (k+1))).length:=by rw[Z]
   refine gq ?_
   refine yo (k+1) (hJ:=by
    refine⟨by omega,?_⟩;rw[V];omega)
 ·have x2:k=l.length:=by omega
  subst x2;have x1:(((dl p (l.take l.length)).length:Nat):Int).toNat+((dl p (l.take l.length)++l.drop (dl p (l.take l.length)).length).length-(((dl p (l.take l.length)).length:Nat):Int).toNat)=(dl p (l.take l.length)++l.drop (dl p (l.take l.length)).length).length:=by rw[wC];omega
  apply kK;apply ye;iterate 2 refine ya ?_
  refine zak (zG rfl rfl rfl sl46 ty3 (by omega) (by omega)) rfl ?_;refine zag (ztE (0:Int) rfl rfl (λ_=>rfl) (by decide) sl46 ti3 rfl rfl rfl x1) ?_;refine gq ?_;refine zag (zrQ rfl rfl rfl sl46 ty3 (by omega) (by simp;omega) rfl) ?_;refine yi ?_;refine kE ?_
  have w2:List.take (((dl p (l.take l.length)).length:Nat):Int).toNat (List.take (((dl p (l.take l.length)).length:Nat):Int).toNat (dl p (l.take l.length)++l.drop (dl p (l.take l.length)).length)++List.replicate ((dl p (l.take l.length)++l.drop (dl p (l.take l.length)).length).length-(((dl p (l.take l.length)).length:Nat):Int).toNat) 0)=dl p l:=by
   rw[wC,wW (by simp),List.take_take,Nat.min_self,wW (jE _),wI (jE _),wI (jE _)]
  refine zo8.mk (ts:=[(4,.own 2000000)]) (.inr rfl) (yd) (.one (.tmp rfl (kB rfl)))
end
end Go.Rse
