/-
  Walks.
-/
import Derived.Test.YtbopkhoalndflaaGreatDoorYJFull1
import Derived.Test.YtbopkhoalndflaaGreatDoorYShelf0
import Derived.Sort.OwnSortedInts
set_option linter.all false
namespace Go.Rse
open Go Go.Proofs Go.Proofs.Tryz
section
attribute [local irreducible] Pur yA yC Ex X LeV LeB FnO It yH
attribute [local irreducible] Fn
def bthE(m:Mn)(t:Tm):Int:=if ckM m=0 then ckT t else ckM m
def zqM{m:Mn}{t:Tm}(h:bthE m t=0):ckM m=0/\ckT t=0:=by
 unfold bthE at h;split at h
 ·exact⟨by assumption,h⟩
 ·exact absurd h (by assumption)
attribute [local irreducible] yx durT mulV mulE whQ whR whE yM bthE
def zkW(m:Mn)(t:Tm):Fn prog 166 [mnA m,tmA t] (iv (bthE m t)):=by
 refine kF func166 ntmps166 (λg w d=>?_);refine gc (zaV m) ?_;refine gd ?_ ?_<;>intro Z
 ·refine gq ?_;all_goals(unfold bthE;first|(rw[j4 Z];done)|(rw[j3 Z];done))
 refine gc (zcq t) ?_;all_goals(unfold bthE;first|(rw[j4 Z];done)|(rw[j3 Z];done))
def zaU(m:Mn)(v:Int)(hm:ckM m=0)(Z:1<=v)(V:v<=8):Fn prog 206 [mnA m,iv v] (tmA (yx m v)):=by
 refine kF func206 ntmps206 (λg w d=>?_);refine gc (zaR hm Z V) ?_;refine kL (.one (.cellA rfl rfl rfl rfl ty83 (kC ?_)));all_goals rfl
def zce(m:Mn)(v:Int)(hm:ckM m=0)(Z:1<=v)(V:v<=8):Fn prog 208 [mnA m,iv v] (.bool (decide (m.p v=3))):=by
 refine kF func208 ntmps208 (λg w d=>?_);refine gc (zfw hm Z V) ?_;all_goals rfl
def zdp(t:Tm)(n q:Int):Fn prog 209 [tmA t,iv n,iv q] (tmsA [mulV t ⟨n,q⟩]):=by
 refine kF func209 ntmps209 (λg w d=>?_);refine gc (zdX t ⟨n,q⟩) ?_;refine yD tmE [mulV t ⟨n,q⟩] ?_;refine yh ?_;refine kE ?_;refine kA (k9 (k:=18) rfl) ?_;refine gq ?_;all_goals rfl
def zeE(m:Mn)(v:Int)(hm:ckM m=0)(V:1<=v)(U:v<=8):Fn prog 213 [mnA m,iv v] (tmA (durT m v)):=by
 have Z:=zlH m v;rw[zmK hm V U,j3 rfl]at Z;refine kF func213 ntmps213 (λg w d=>?_);refine gc Z ?_;refine kL (.one (.cellA rfl rfl rfl rfl ty83 (kC ?_)));all_goals rfl
end
section
attribute [local irreducible] Pur yA yC Ex X Fn Imp LeV LeB FnO It yH
def lsL(m:Mn)(v:Int):Nat->Int->Tm->Bool->List Tm
 |0,k,t,b=>if b=true/\0<t.N then[t]else[]
 |n+1,k,t,b=>lsL m v n (k+1) t b++(if m.p k=3 then
  (if subE t (yx m (k+1))=0 then lsL m v n (k+1) (subV t (yx m (k+1))) true++
   (if v<k/\subE (subV t (yx m (k+1))) (yx m (k+1))=0 then lsL m v n (k+1) (subV (subV t (yx m (k+1))) (yx m (k+1))) true else[])else[])else[])
def lsT(m:Mn)(k:Int)(t:Tm):Nat->Tm
 |0=>t
 |j+1=>subV (lsT m k t j) (yx m (k+1))
def lsR(m:Mn)(v:Int)(n:Nat)(k:Int)(t:Tm)(b:Bool)(L:List Tm):Nat->List Tm
 |0=>L++lsL m v n (k+1) t b
 |j+1=>lsR m v n k t b L j++lsL m v n (k+1) (lsT m k t (j+1)) true
def zfa(m:Mn)(v:Int):∀(n:Nat)(k:Int)(t:Tm)(b:Bool),(lsL m v n k t b).length<=3^n
 |0,k,t,b=>by unfold lsL;split<;>simp
 |n+1,k,t,b=>by
  have h0:=zfa m v n (k+1) t b;have Z:=zfa m v n (k+1) (subV t (yx m (k+1))) true;have V:=zfa m v n (k+1) (subV (subV t (yx m (k+1))) (yx m (k+1))) true;have U:3^(n+1)=3^n*3:=Nat.pow_succ ..;unfold lsL;simp only[jE];split
  ·split
   ·simp only[jE];split
    ·omega
    ·simp;omega
   ·simp;omega
  ·simp;omega
def zkX(m:Mn)(v:Int)(n:Nat)(k:Int)(t:Tm)(b:Bool)(L:List Tm):∀j,(lsR m v n k t b L j).length<=L.length+(j+1)*3^n
 |0=>by have:=zfa m v n (k+1) t b;unfold lsR;simp;omega
 |j+1=>by
  have Z:=zkX m v n k t b L j;have V:=zfa m v n (k+1) (lsT m k t (j+1)) true;have U:(j+1+1)*3^n=(j+1)*3^n+3^n:=vL ..;unfold lsR;simp only[jE];omega
def zwt{m:Mn}{v:Int}{n:Nat}{k:Int}{t:Tm}{b:Bool}{L:List Tm}(Z:¬m.p k=3):lsR m v n k t b L 0=L++lsL m v (n+1) k t b:=by
 simp only[lsR,lsL,j4 Z,wC]
def zyV{m:Mn}{v:Int}{n:Nat}{k:Int}{t:Tm}{b:Bool}{L:List Tm}(Z:m.p k=3)(h:¬subE (lsT m k t 0) (yx m (k+1))=0):lsR m v n k t b L 0=L++lsL m v (n+1) k t b:=by
 simp only[lsT]at h;simp only[lsR,lsL,j3 Z,j4 h,wC]
def zuW{m:Mn}{v:Int}{n:Nat}{k:Int}{t:Tm}{b:Bool}{L:List Tm}(Z:m.p k=3)(h0:subE (lsT m k t 0) (yx m (k+1))=0)(h:¬v<k\/¬subE (lsT m k t 1) (yx m (k+1))=0):lsR m v n k t b L 1=L++lsL m v (n+1) k t b:=by
 simp only[lsT]at h h0;simp only[lsR,lsL,lsT,j3 Z,j3 h0];rw[j4 (λe=>by rcases h with h|h;exact h e.1;exact h e.2)];simp
def zyW{m:Mn}{v:Int}{n:Nat}{k:Int}{t:Tm}{b:Bool}{L:List Tm}(V:m.p k=3)(h0:subE (lsT m k t 0) (yx m (k+1))=0)(h:v<k)(Z:subE (lsT m k t 1) (yx m (k+1))=0):lsR m v n k t b L 2=L++lsL m v (n+1) k t b:=by
 simp only[lsT]at Z h0;simp only[lsR,lsL,lsT,j3 V,j3 h0,j3 (show v<k/\_ from⟨h,Z⟩)];simp
def wdL(m:Mn)(v:Int)(n:Nat):List Tm:=
 if n=1\/n=8 then[yx m v]
 else if n=2 then(if m.p v=3 then[]else[mulV (yx m v) ⟨3,2⟩])
 else if n=3 then lsL m v (5-v).toNat v (yx m v) false
 else if n=4 then(if v=1\/¬m.p (v-1)=3 then[]else[mulV (yx m v) ⟨2,1⟩])
 else if n=5 then[durT m v]
 else if n=6 then[mulV (durT m v) ⟨3,2⟩]
 else if n=7 then(if m.Pro=2/\v=4 then[⟨3,2⟩]else if m.Pro=2/\v=5 then[⟨1,2⟩]else[])
 else[]
def zuX:List AV:=[.bool false,.bool false,.bool false,.nilf,.bool false,.bool false,.bool false,.fn 205 [],.bool false,.bool false,.bool true,.fn 207 [],.bool false,.bool false,.bool false,.fn 210 [],.bool false,.bool false,.bool false,.fn 211 [],
 .bool false,.bool true,.bool false,.fn 212 [],.bool false,.bool true,.bool true,.fn 214 [],.bool false,.bool true,.bool false,.fn 215 [],.bool true,.bool false,.bool false,.fn 216 []]
attribute [local irreducible] yx durT mulV mulE subV subE
theorem zkj.imp{P:Program}{C:Ctx}{rv:List ResultVar}{r:AV}{vs:List Value}{cs:List AV}{Z:List (Nat×Blk)}{e:Exit}{st st':St}(hi:Imp C st st')(h:zkj P C rv r vs cs Z e st'):zkj P C rv r vs cs Z e st:=by
 obtain⟨V,ts,ex,U,T⟩:=h;exact⟨V,ts,ex,hi.trans U,T⟩
set_option maxHeartbeats 4000000 in
def ziH(m:Mn)(hm:ckM m=0)(v:Int)(n:Nat)(k:Int)(t:Tm)(b:Bool)(L:List Tm)(hn:(5-k).toNat=n)(G:1<=k)(E:k<=8)(hL:L.length+3^n<=1000):FnO prog 265 [iv k,tmA t,.bool b,.ptr 2000000 0 0 0,.ptr 2000001 0 0 0,.ptr 2000002 0 0 0,.ptr 2000003 0 0 0] [(2000000,.box [.own 2000010] 50),(2000001,.box [.fn 265 [.ptr 2000000 0 0 0,.ptr 2000001 0 0 0,.ptr 2000002 0 0 0,.ptr 2000003 0 0 0]] 299),(2000002,.box (mnE m) 23),(2000003,.box [iv v] 3),(2000010,.row tmE (L) 83 2)] [2000000,2000001,2000002,2000003] (.tup []) [(2000000,.box [.own 2000011] 50),(2000001,.box [.fn 265 [.ptr 2000000 0 0 0,.ptr 2000001 0 0 0,.ptr 2000002 0 0 0,.ptr 2000003 0 0 0]] 299),(2000002,.box (mnE m) 23),(2000003,.box [iv v] 3),(2000011,.row tmE (L++lsL m v n k t b) 83 2)]:=by
 induction n using Nat.strongRecOn generalizing k t b L
 rename_i n ih;refine kX (ts:=[(0,iv k),(1,tmA t),(2,.bool b),(3,.ptr 2000000 0 0 0),(4,.ptr 2000001 0 0 0),(5,.ptr 2000002 0 0 0),(6,.ptr 2000003 0 0 0)]) (rv:=[]) (n:=67) (cs:=[.ptr 2000000 0 0 0,.ptr 2000001 0 0 0,.ptr 2000002 0 0 0,.ptr 2000003 0 0 0]) (by kernel_rfl) func265 rfl ntmps265 rfl rfl (by simp) rfl rfl rfl rfl (λg w d vs=>?_);refine gd ?_ ?_<;>intro xT
 ·have I:n=0:=by omega
  subst I;apply yf;apply ye;refine ya ?_;refine kI 1 ?_;refine yp ?_;iterate 3 refine kG ?_
  refine gf ?_ ?_<;>intro T
  ·have Z:L++[t]=L++lsL m v 0 k t b:=by unfold lsL;rw[j3 T]
   refine gq ?_;refine yD tmE [⟨_,_⟩] ?_;(iterate 2 refine kK ?_);apply kQ;refine kE ?_;refine zkj.imp (bD 2000010 2000011 rfl rfl) ?_;refine zkj.mk [] [] (.inr rfl) (.many (by decide) .nil);all_goals rfl
  ·have Z:L=L++lsL m v 0 k t b:=by
    unfold lsL;rw[j4 (λe=>by rcases T with h|h;rw[e.1]at h;cases h;omega)];simp
   apply yk;refine kE ?_;refine zkj.imp (bD 2000010 2000011 rfl rfl) ?_;refine zkj.mk [] [] (.inr rfl) (.many (by decide) .nil);all_goals rfl
 obtain⟨q,rfl⟩:∃q,n=q+1:=⟨n-1,by omega⟩;have h3:3^(q+1)=3^q*3:=Nat.pow_succ ..;refine gq ?_;refine zV [(2000000,2000000),(2000001,2000001),(2000002,2000002),(2000003,2000003),(2000010,2000010),(2000011,2000012)] (ih q (by omega) (k+1) (t) b (L) (by omega) (by omega) (by omega) (by omega)) ?_;refine gc (zce m k hm G E) ?_;refine gd ?_ ?_<;>intro Q
 ·have Z:=zwt (v:=v) (n:=q) (t:=t) (b:=b) (L:=L) Q;refine kE ?_;refine zkj.imp (bD 2000012 2000011 rfl rfl) ?_;refine zkj.mk [] [] (.inr rfl) (.many (by decide) .nil);all_goals rfl
 have J:m.p k=3:=Q;refine gq ?_;refine yP (zaU m (k+1) hm (by omega) (by omega)) ?_;refine zk ?_;refine kK ?_;apply yG;refine yh ?_;apply kB;refine zM (λj=>[(0,iv k),(3,.ptr 2000000 0 0 0),(4,.ptr 2000001 0 0 0),(5,.ptr 2000002 0 0 0),(6,.ptr 2000003 0 0 0),(8,.ptr 8 0 0 0),(10,.ptr 10 0 0 0),(11,iv (1+(j:Int)))]) (λj=>[(1000001,.hold vs [.ptr 2000000 0 0 0,.ptr 2000001 0 0 0,.ptr 2000002 0 0 0,.ptr 2000003 0 0 0]),(2000000,.box [.own 2000012] 50),(2000001,.box [.fn 265 [.ptr 2000000 0 0 0,.ptr 2000001 0 0 0,.ptr 2000002 0 0 0,.ptr 2000003 0 0 0]] 299),(2000002,.box (mnE m) 23),(2000003,.box [iv v] 3),(2000012,.row tmE (lsR m v q k t b L j) 83 2),(8,.box (tmE (lsT m k t j)) 83),(10,.box (tmE (yx m (k+1))) 83)]) (λj=>j<=2/\(∀i,i<j->subE (lsT m k t i) (yx m (k+1))=0)/\(j=2->v<k)) 2 (λj hk=>?_) (hJ:=by exact⟨by omega,λi hi=>by omega,λh=>by omega⟩);obtain⟨x4,hJ,h2⟩:=hk;apply yf;apply ye;iterate 2 refine ya ?_
 refine kI 2 ?_;refine yp ?_;iterate 7 refine kG ?_
 refine gf ?_ ?_<;>intro x3
 ·have V:j=0\/(j=1/\v<k):=by omega
  have H:(lsR m v q k t b L j).length+3^q<=1000:=by
   rcases V with rfl|⟨rfl,_⟩
   ·have:=zkX m v q k t b L 0;omega
   ·have:=zkX m v q k t b L 1;omega
  refine gc (zcR (lsT m k t j) (yx m (k+1))) ?_;refine gd ?_ ?_<;>intro U
  ·have Z:lsR m v q k t b L j=L++lsL m v (q+1) k t b:=by
    rcases V with rfl|⟨rfl,x2⟩
    ·exact zyV J U
    ·exact zuW J (hJ 0 (by omega)) (.inr U)
   refine kE ?_;refine zkj.imp (bD 2000012 2000011 rfl rfl) ?_;refine zkj.mk [] [] (.inr rfl) (.many (by decide) .nil);all_goals rfl
  refine gq ?_;refine zV [(2000000,2000000),(2000001,2000001),(2000002,2000002),(2000003,2000003),(2000010,2000012),(2000011,2000013)] (ih q (by omega) (k+1) (lsT m k t (j+1)) true (lsR m v q k t b L j) (by omega) (by omega) (by omega) H) ?_;apply kQ;refine kJ (st':=⟨[(0,iv k),(3,.ptr 2000000 0 0 0),(4,.ptr 2000001 0 0 0),(5,.ptr 2000002 0 0 0),(6,.ptr 2000003 0 0 0),(8,.ptr 8 0 0 0),(10,.ptr 10 0 0 0),(11,iv (1+(j:Int)))],[(1000001,.hold vs [.ptr 2000000 0 0 0,.ptr 2000001 0 0 0,.ptr 2000002 0 0 0,.ptr 2000003 0 0 0]),(2000000,.box [.own 2000013] 50),(2000001,.box [.fn 265 [.ptr 2000000 0 0 0,.ptr 2000001 0 0 0,.ptr 2000002 0 0 0,.ptr 2000003 0 0 0]] 299),(2000002,.box (mnE m) 23),(2000003,.box [iv v] 3),(2000013,.row tmE (lsR m v q k t b L (j+1)) 83 2),(8,.box (tmE (lsT m k t (j+1))) 83),(10,.box (tmE (yx m (k+1))) 83)]⟩) yi ?_;refine kJ (bD 2000013 2000012 rfl rfl) ?_;refine gq ?_
  refine yz (j+1) (hJ:=by
   refine⟨by omega,λi hi=>?_,λh=>by omega⟩;rcases wA i j with h|h
   ·exact hJ i h
   ·rw[show i=j by omega];exact U) (hI:=yi)
 ·have N:(j=1/\¬v<k)\/j=2:=by omega
  have Z:lsR m v q k t b L j=L++lsL m v (q+1) k t b:=by
   rcases N with⟨rfl,h⟩|rfl
   ·exact zuW J (hJ 0 (by omega)) (.inl h)
   ·exact zyW J (hJ 0 (by omega)) (h2 rfl) (hJ 1 (by omega))
  apply kO;refine zkj.imp (bD 2000012 2000011 rfl rfl) ?_;refine zkj.mk [] [] (.inl rfl) (.many (by decide) .nil);all_goals rfl
def zkY(m:Mn)(v:Int)(hm:ckM m=0)(Z:1<=v)(V:v<=8):Fn prog 210 [mnA m,iv v] (tmsA (wdL m v 3)):=by
 have U:3^(5-v).toNat<=3^4:=vC (by decide) (by omega);have T:3^4=81:=rfl;refine kF func210 ntmps210 (λg w d=>?_);refine gq ?_;refine zeW ?_;refine ya ?_;apply yG;refine zk ?_;apply yG;refine zk ?_;apply yG;refine ya ?_;refine kK ?_;apply kQ;apply yf;refine kJ (zb0 tmE 83 2 5 20 50 rfl rfl) ?_;refine yW [8,9,10,11,12] [0,0,0,0,12,31] mo ?_;iterate 4 refine yb ?_
 refine yL (zaU m v hm Z V) ?_;refine yF ?_;refine zV [(2000000,5),(2000001,6),(2000002,2),(2000003,3),(2000010,20),(2000011,21)] (ziH m hm v (5-v).toNat v (yx m v) false [] rfl Z V (by simp;omega)) ?_;apply yG;refine yO ?_;refine kE ?_;refine kA (k9 (k:=21) rfl) ?_;refine gq ?_;all_goals(first|rfl|(simp[wdL, *];done)|(simp[wdL, *];rfl)|(simp[wdL];omega))
def ziI(m:Mn)(v:Int)(hm:ckM m=0)(Z:1<=v)(V:v<=8):Fn prog 205 [mnA m,iv v] (tmsA (wdL m v 1)):=by
 refine kF func205 ntmps205 (λg w d=>?_);refine gq ?_;refine yP (zaU m v hm Z V) ?_;refine yD tmE [yx m v] ?_;refine yh ?_;refine kE ?_;refine kA (k9 (k:=8) rfl) ?_;refine gq ?_;all_goals(first|rfl|(simp[wdL, *];done)|(simp[wdL, *];rfl)|(simp[wdL];omega))
def ziJ(m:Mn)(v:Int)(hm:ckM m=0)(Z:1<=v)(V:v<=8):Fn prog 207 [mnA m,iv v] (tmsA (wdL m v 2)):=by
 refine kF func207 ntmps207 (λg w d=>?_);refine gc (zce m v hm Z V) ?_;refine gd ?_ ?_<;>intro U
 ·apply ye;refine yh ?_;refine kE ?_;refine kA (yd (ts:=[(4,tmsA [])]) (hs:=[])) ?_;refine gq ?_;all_goals(first|rfl|(simp[wdL, *];done)|(simp[wdL, *];rfl)|(simp[wdL];omega))
 refine gq ?_;refine yP (zaU m v hm Z V) ?_;refine gc (zdp (yx m v) 3 2) ?_;all_goals(simp[wdL, *])
def ziK(m:Mn)(v:Int)(hm:ckM m=0)(Z:1<=v)(V:v<=8):Fn prog 211 [mnA m,iv v] (tmsA (wdL m v 4)):=by
 refine kF func211 ntmps211 (λg w d=>?_);apply ye;refine zH ?_;refine yh ?_;apply yf;apply ye;iterate 2 refine ya ?_
 refine kI 2 ?_;refine gq ?_;refine ExF.cp (p:=¬v=1) (λU=>zce m (v-1) hm (by omega) (by omega)) ?_;refine kG ?_;refine gf ?_ ?_<;>intro T
 ·apply ye;refine yh ?_;refine kE ?_;refine kA (yd (ts:=[(4,tmsA [])]) (hs:=[])) ?_;refine gq ?_;all_goals(first|rfl|(simp[wdL, *];done)|(simp[wdL, *];rfl)|(simp[wdL];omega))
 refine gq ?_;refine yP (zaU m v hm Z V) ?_;refine gc (zdp (yx m v) 2 1) ?_;all_goals(simp[wdL, *])
def ziL(m:Mn)(v:Int)(hm:ckM m=0)(Z:1<=v)(V:v<=8):Fn prog 212 [mnA m,iv v] (tmsA (wdL m v 5)):=by
 refine kF func212 ntmps212 (λg w d=>?_);refine gq ?_;refine yP (zeE m v hm Z V) ?_;refine yD tmE [durT m v] ?_;refine yh ?_;refine kE ?_;refine kA (k9 (k:=8) rfl) ?_;refine gq ?_;all_goals(first|rfl|(simp[wdL, *];done)|(simp[wdL, *];rfl)|(simp[wdL];omega))
def ziM(m:Mn)(v:Int)(hm:ckM m=0)(Z:1<=v)(V:v<=8):Fn prog 214 [mnA m,iv v] (tmsA (wdL m v 6)):=by
 refine kF func214 ntmps214 (λg w d=>?_);refine gq ?_;refine yP (zeE m v hm Z V) ?_;refine gc (zdp (durT m v) 3 2) ?_;all_goals(simp[wdL, *])
def ziN(m:Mn)(v:Int)(hm:ckM m=0)(T:1<=v)(Q:v<=8):Fn prog 215 [mnA m,iv v] (tmsA (wdL m v 7)):=by
 refine kF func215 ntmps215 (λg w d=>?_);apply ye;refine zH ?_;refine yh ?_;apply yf;apply kB;apply ye;iterate 3 refine ya ?_
 refine kI 3 ?_;refine yp ?_;iterate 2 refine kG ?_
 refine gf ?_ ?_<;>intro V
 ·refine gq ?_;refine yD tmE [⟨3,2⟩] ?_;refine yh ?_;refine kE ?_;refine kA (k9 (k:=14) rfl) ?_;refine gq ?_;all_goals(first|rfl|exact zE Z|(simp[wdL, *];done)|(simp[wdL, *];rfl)|(simp[wdL];omega))
 apply ye;iterate 3 refine ya ?_
 refine kI 3 ?_;refine yp ?_;iterate 2 refine kG ?_
 refine gf ?_ ?_<;>intro U
 ·refine gq ?_;refine yD tmE [⟨1,2⟩] ?_;refine yh ?_;refine kE ?_;refine kA (k9 (k:=24) rfl) ?_;refine gq ?_;all_goals(first|rfl|exact zE Z|(simp[wdL, *];done)|(simp[wdL, *];rfl)|(simp[wdL];omega))
 have Z:wdL m v 7=[]:=by
  have e:wdL m v 7=(if m.Pro=2/\v=4 then[⟨3,2⟩]else if m.Pro=2/\v=5 then[⟨1,2⟩]else[]):=rfl;rw[e,j4 (by omega),j4 (by omega)]
 apply yk;apply ye;refine yh ?_;refine kE ?_;refine kA (yd (ts:=[(4,tmsA [])]) (hs:=[])) ?_;refine gq ?_;all_goals(first|rfl|exact zE Z|(simp[wdL, *];done)|(simp[wdL, *];rfl)|(simp[wdL];omega))
def ziO(m:Mn)(v:Int)(hm:ckM m=0)(Z:1<=v)(V:v<=8):Fn prog 216 [mnA m,iv v] (tmsA (wdL m v 8)):=by
 refine kF func216 ntmps216 (λg w d=>?_);refine gq ?_;refine yP (zaU m v hm Z V) ?_;refine yD tmE [yx m v] ?_;refine yh ?_;refine kE ?_;refine kA (k9 (k:=8) rfl) ?_;refine gq ?_;all_goals(first|rfl|(simp[wdL, *];done)|(simp[wdL, *];rfl)|(simp[wdL];omega))
def zkZ:Fn prog 167 [] (.agg zuX):=by
 refine kF func167 ntmps167 (λg w d=>?_);refine gq ?_;refine kL (.one (.cellA rfl rfl rfl rfl zvi (kC ?_)));all_goals rfl
end
section
def zl9{I:Im}{l:List Int}{xs:List Value}(hl:xs.length=l.length*1)(h:∀(i:Nat)(x:Int)(j:Nat)(c:AV)(v:Value),l[i]? =some x->(intE x)[j]? =some c->xs[i*1+j]? =some v->RV I noNames c v):xs=l.map (Value.int .i64):=by
 apply uR;intro i;rw[jO];cases hx:l[i]? with
 |none=>
  have:l.length<=i:=by simpa using hx
  rw[wR (by omega)];rfl
 |some x=>
  have Z:i<xs.length:=by have:=(j1.1 hx).1;omega
  have hv:=h i x 0 (iv x) xs[i] hx rfl (by simp[lgg Z]);rw[lgg Z,y7 hv];rfl
def zqN{I:Im}{l:List Int}:∀(i:Nat)(x:Int)(j:Nat)(c:AV)(v:Value),l[i]? =some x->(intE x)[j]? =some c->(l.map (Value.int .i64))[i*1+j]? =some v->RV I noNames c v:=λi x j c v hx Z hv=>by
 cases j with
 |zero=>
  simp[intE]at Z;simp[hx]at hv;subst Z;subst hv;exact .int _ _
 |succ j=>simp[intE]at Z
def zn8{d:Nat}{ρ ρ':Nat->Value}{I:Im}{O:Owns}{w w':World}{E:TypeId}{l l':List Int}{b:Nat}(Z:Sat (C0 0 d ⟨ρ,I,O⟩ w) [(2000000,.row intE l E 1)] ⟨ρ,I,O⟩ w)(hρ:∀n,n≠2000000->ρ' n=ρ n)(H:yY (ρ 2000000)=some b)(Q:yY (ρ' 2000000)=some b)
 (hm:w.grownBy w' (some b))(N:w.drawn<=w'.drawn)(G:w'.ownsRow 0 E 1 (ρ' 2000000) l'.length (l'.map (Value.int .i64))):
 Sat (C0 0 d ⟨ρ,I,O⟩ w) [(2000000,.row intE l' E 1)] ⟨ρ',I,O⟩ w'/\Ext (C0 0 d ⟨ρ,I,O⟩ w) ⟨ρ',I,O⟩ w':=by
 have V:Rel (C0 0 d ⟨ρ,I,O⟩ w) ⟨[],[(2000000,.row intE l E 1)]⟩ ⟨ρ,I,O⟩ {tmps:= #[],defers:=[]} w:=⟨rfl,Dfs.nil _ _ _,λt x h=>by simp[lk]at h,Z,⟨bE _,rfl,rfl,rfl,jD _,jD _,λ_ _ _ _=>⟨rfl,rfl⟩,λb y n _ hy=>⟨n,hy⟩⟩⟩;obtain⟨xs,xT,h1,h2,h3⟩:=Z.blk 2000000 _ rfl;have J:=h3 b H
 have hr:=V.modifyR (g':=⟨ρ',I,O⟩) (k:=2000000) (bo:=some b) (B:=.row intE l' E 1) (d:=none) (x:=.any) (v:=.nilIface) rfl hρ (λ_ _=>rfl) (λb' e=>by injection e with e;subst e;exact J) hm N (Z.ob.up (bE _) hm.size) rfl (.any _)
  ⟨l'.map (Value.int .i64),G,λi x _=>rfl,zqN,λb' U=>by
   have:b'=b:=by rw[Q]at U;simpa using U.symm
   subst this;exact J⟩
 refine⟨⟨hr.sat.im,hr.sat.ob,λk B T=>hr.sat.blk k B ?_⟩,hr.ext⟩;simp only[yq]at T⊢;cases hk:Nat.beq 2000000 k<;>simp[hk]at T⊢
 ·simp[lk]at T
 ·exact T
def srtI(l:List Int):List Int:=l.mergeSort λx y=>decide (x<=y)
def zgJ(l:List Int):(srtI l).length=l.length:=List.length_mergeSort l
def zn9{I:Im}{ρ:Nat->Value}{k:Nat}{args:List Value}(h:RVL I ρ [.own k] args):args=[ρ k]:=by
 obtain⟨hl,hv⟩:=h
 match args,hl with
 |[v],_=>rw[zZ (hv 0 _ v rfl rfl)]
def zej(l:List Int)(hl:l.length<=4000000000):FnO prog 235 [.own 2000000] [(2000000,.row intE l 3 1)] [2000000] (.tup []) [(2000000,.row intE (srtI l) 3 1)]:=by
 refine⟨by kernel_rfl,λd ρ I O w args Z V=>?_⟩;rw[zn9 V];obtain⟨xs,hw,h1,h2,h3⟩:=Z.blk 2000000 _ rfl;have N:=zl9 hw.1 h2;rcases hw.2 with⟨hv,h0⟩|⟨b,cap,cur,hv,J,H,G,E,T,xT⟩
 ·have hv:ρ 2000000=.slice none 0 0:=hv;have x4:l=[]:=jN h0;subst x4;have e0:srtI []=[]:=by simp[srtI]
  rw[hv,e0];refine Calls.mono (Tryz.slices_Sort_int_none none 0 w) ?_
  rintro e w'⟨rfl,rfl⟩
  exact⟨_,ρ,I,O,rfl,Z,.tup [] [] rfl (λj c v h=>by simp at h),⟨bE _,rfl,rfl,rfl,jD _,jD _,λ_ _ _ _=>⟨rfl,rfl⟩,λb y n _ hy=>⟨n,hy⟩⟩,λ_ _=>rfl⟩
 ·have hv:ρ 2000000=.slice (some ⟨b,0,none⟩) l.length cap:=hv;rw[hv];have U:=holds_of_blockI (ss:=l) H (by rw[←N,←xT];simp);refine Calls.mono (Tryz.slices_Sort_int b 0 cap l w U (zd H) (by omega)) ?_
  rintro e w'⟨rfl,n,os,rfl⟩
  have Q:=ownsRow_sortedI (n:=n) (os:=os) (base:=0) (ss:=l) (ts:=srtI l) (zgJ l) J H G E (by simpa using T);obtain⟨s1,s2⟩:=zn8 (ρ':=ρ) (l':=srtI l) Z (λ_ _=>rfl) (by rw[hv];rfl) (by rw[hv];rfl) (grownBy_sortedI (n:=n) (os:=os) (srtI l).toArray) (by show w.drawn<=w.drawn+n;omega) (by rw[hv,zgJ];exact Q);exact⟨_,ρ,I,O,rfl,s1,.tup [] [] rfl (λj c v h=>by simp at h),s2,λ_ _=>rfl⟩
def zdq(l:List Int)(hl:l.length<=4000000000):FnO prog 236 [.own 2000000] [(2000000,.row intE l 3 1)] [] (.own 2000000) [(2000000,.row intE (Lib.compact l) 3 1)]:=by
 refine⟨by kernel_rfl,λd ρ I O w args Z U=>?_⟩;rw[zn9 U];obtain⟨xs,hw,h1,h2,h3⟩:=Z.blk 2000000 _ rfl;have G:=zl9 hw.1 h2;rcases hw.2 with⟨hv,h0⟩|⟨b,cap,cur,hv,E,hh,Q,xT,N,x4⟩
 ·have hv:ρ 2000000=.slice none 0 0:=hv;have x3:l=[]:=jN h0;subst x3;have e0:Lib.compact ([]:List Int)=[]:=rfl;rw[hv,e0];refine Calls.mono (Tryz.slices_Compact_int_empty none 0 w) ?_
  rintro e w'⟨rfl,rfl⟩
  exact⟨_,ρ,I,O,rfl,Z,.own _ _ _ _ hv,⟨bE _,rfl,rfl,rfl,jD _,jD _,λ_ _ _ _=>⟨rfl,rfl⟩,λb y n _ hy=>⟨n,hy⟩⟩,λ_ h=>by simp at h⟩
 ·have hv:ρ 2000000=.slice (some ⟨b,0,none⟩) l.length cap:=hv;rw[hv];have T:=holds_of_blockI (ss:=l) hh (by rw[←G,←x4];simp);refine Calls.mono (Tryz.slices_Compact_int b 0 cap l w T (by omega) Q) ?_
  rintro e w'⟨rfl,n,rfl⟩
  have x2:(Lib.compact l).length<=l.length:=Lib.compact_length_le l;have V:=ownsRow_sortedI (n:=n) (os:= #[]) (base:=0) (ss:=l) (ts:=Lib.compact l++List.replicate (l.length-(Lib.compact l).length) 0) (by simp;omega) E hh Q xT (by simpa using N);have J:=grownBy_sortedI (w:=w) (g:=b) (n:=n) (os:= #[]) (Lib.compact l++List.replicate (l.length-(Lib.compact l).length) 0).toArray;rw[Sort.grow_empty]at V J
  obtain⟨s1,s2⟩:=zn8 (ρ':=λk=>if k=2000000 then .slice (some ⟨b,0,none⟩) (Lib.compact l).length cap else ρ k) (l':=Lib.compact l) Z (λk hk=>by simp[hk]) (by rw[hv];rfl) (by simp[yY]) J (by show w.drawn<=w.drawn+n;omega) (by
   refine⟨by simp,?_⟩;rcases V.2 with⟨h,_⟩|⟨g',cap',cur',H,x1,x0,v5,w2,v9,v8⟩
   ·simp at h
   ·simp at H;obtain⟨rfl,rfl⟩:=H;refine .inr ⟨b,cap,cur',by simp,x1,x0,by omega,w2,v9,?_⟩;have:=j5 (List.take ((Lib.compact l).length*1)) v8;rw[List.take_take]at this;simp only[Nat.mul_one,xO]at this⊢;rw[xQ x2]at this;rw[this,wP (by simp),jY (by simp)])
  exact⟨_,_,I,O,rfl,s1,.own _ _ _ _ (by simp),s2,λ_ h=>by simp at h⟩
end
section
attribute [local irreducible] Pur yA yC Ex X Fn Imp LeV LeB FnO It yH
def fidx(p:Int->Bool)(l:List Int):Int:=if l.findIdx p<l.length then(l.findIdx p:Int)else-1
def zma{p:Int->Bool}{l:List Int}{k:Nat}{v:Int}(hv:l[k]? =some v)(V:p v=true)(hJ:∀i u,i<k->l[i]? =some u->p u=false):fidx p l=k:=by
 have Z:k<l.length:=(j1.1 hv).1;have U:l[k]=v:=(j1.1 hv).2;have:l.findIdx p=k:=(List.findIdx_eq Z).2 ⟨by rw[U];exact V,λj T=>hJ j _ T (lgg (by omega))⟩;unfold fidx;rw[this,j3 Z]
def zjY{p:Int->Bool}{l:List Int}(hJ:∀i u,i<l.length->l[i]? =some u->p u=false):fidx p l=-1:=by
 have:l.findIdx p=l.length:=uG.2 λx hx=>by
  obtain⟨i,hi⟩:=jP.1 hx;simpa using hJ i x (j1.1 hi).1 hi
 unfold fidx;rw[j4 (by omega)]
def zcT(l:List Int)(hl:l.length<=4000000000)(fp:FuncId)(caps:List AV)(p:Int->Bool)(T:AV.nm.nmL caps=true)(Q:∀v,v∈l->Fn prog fp ([iv v]++caps) (.bool (p v))):FnO prog 278 [.own 2000000,.fn fp caps] [(2000000,.row intE l 3 1)] [2000000] (iv (fidx p l)) [(2000000,.row intE l 3 1)]:=by
 refine bF (ts:=[(0,.own 2000000),(1,.fn fp caps)]) (rv:=[.tmp 4]) (n:=19) (cs:=[.own 2000000]) (by kernel_rfl) func278 rfl ntmps278 rfl rfl (by simp) rfl rfl rfl rfl (λg w d vs=>?_);apply ye;refine yh ?_;apply yf;apply ye;refine yE ?_;apply kB;refine zM (λk=>[(0,.own 2000000),(1,.fn fp caps),(7,iv l.length),(8,iv k)]) (λk=>[(1000001,.hold vs [.own 2000000]),(2000000,.row intE l 3 1)]) (λk=>k<=l.length/\∀i u,i<k->l[i]? =some u->p u=false) l.length (λk N=>?_) (hJ:=by exact⟨by omega,λi u h=>absurd h (wT i)⟩) (h0:=yd);obtain⟨J,Z⟩:=N;refine gd ?_ ?_<;>intro I
 ·obtain⟨v,hv⟩:∃v,l[k]? =some v:=⟨_,lgg (by omega)⟩;have H:l[(k:Int).toNat]? =some v:=by simpa using hv
  apply yk;apply yf;apply kB;apply ye;iterate 2 refine ya ?_
  apply yG;iterate 5 refine ya ?_
  refine Ex.call rfl rfl (by simpa[AV.nm.nmL,AV.nm]using T) (Q v (j6 hv)) rfl ?_;refine gd ?_ ?_<;>intro V
  ·have he:=zma hv V Z;apply ye;refine yO ?_;refine kE ?_;rw[he];refine zou.mk (ts:=[(4,iv k)]) (.inr rfl) (yd) (.one (.tmp rfl (kC rfl)))
  refine gq ?_
  refine yz (k+1) (hJ:=by
   refine⟨by omega,λi u hi U=>?_⟩;rcases w6.1 hi with h|h
   ·exact Z i u h U
   ·subst h;rw[hv]at U;injection U with U;subst U;exact V)
 ·have he:=zjY (p:=p) (l:=l) λi u hi=>Z i u (by omega)
  apply kO;apply ye;refine yh ?_;refine kE ?_;rw[he];refine zou.mk (ts:=[(4,iv (-1))]) (.inr rfl) (yd) (.one (.tmp rfl (kC rfl)))
def zwu{L:List Nat}{x:AV}(h:x.nm=true):ok1 L x=true:=by
 cases x<;>first|exact h|(simp[AV.nm]at h)
def zsY{μ:List (Nat×Nat)}{x:AV}(h:x.nm=true):ren1 μ x=x:=by
 cases x<;>first|rfl|(simp[AV.nm]at h)
def zoa{cs:List AV}(h:AV.nm.nmL cs=true):∀x∈cs,x.nm=true:=λx hx=>by
 obtain⟨j,Z⟩:=jP.1 hx;exact zw h Z
def zyX{L:List Nat}{f:FuncId}{caps:List AV}(h:AV.nm.nmL caps=true):AV.okN L (.fn f caps)=true:=
 jB.2 λx hx=>zwu (zoa h x hx)
def zwv{μ:List (Nat×Nat)}{f:FuncId}{caps:List AV}(h:AV.nm.nmL caps=true):AV.fn f caps=AV.ren μ (.fn f caps):=by
 have:caps.map (ren1 μ)=caps:=by
  have Z:caps.map (ren1 μ)=caps.map id:=vE λx hx=>zsY (zoa h x hx)
  simpa using Z
 show AV.fn f caps=AV.fn f (caps.map (ren1 μ));rw[this]
def dl(p:Int->Bool)(l:List Int):List Int:=l.filter λv=>!p v
def zk0{p:Int->Bool}{l:List Int}{k:Nat}{v:Int}(h:l[k]? =some v):dl p (l.take (k+1))=dl p (l.take k)++(if p v=true then[]else[v]):=by
 have:l.take (k+1)=l.take k++[v]:=by rw[jF,h];rfl
 rw[dl,this,wX];cases Z:p v<;>simp[dl,Z]
def zm6(p:Int->Bool)(l:List Int):(fidx p l=-1/\dl p l=l)\/∃(k:Nat)(v:Int),fidx p l=(k:Int)/\l[k]? =some v/\p v=true/\dl p (l.take k)=l.take k:=by
 unfold fidx;split
 ·rename_i h;refine .inr ⟨l.findIdx p,l[l.findIdx p],rfl,lgg h,List.findIdx_getElem (w:=h),?_⟩;refine vU.2 λx hx=>?_
  obtain⟨i,hi⟩:=jP.1 hx;rw[w4]at hi;split at hi
  ·rename_i Z;have:=List.not_of_lt_findIdx Z;have V:l[i]=x:=(j1.1 hi).2;rw[V]at this;simpa using this
  ·simp at hi
 ·rename_i h;refine .inl ⟨rfl,vU.2 λx hx=>?_⟩;have U:l.findIdx p=l.length:=Nat.le_antisymm List.findIdx_le_length (by omega);have:=(uG.1 U) x hx;simpa using this
def zcr(l:List Int)(hl:l.length<=4000000000)(fp:FuncId)(caps:List AV)(p:Int->Bool)(H:AV.nm.nmL caps=true)(hp:∀v,v∈l->Fn prog fp ([iv v]++caps) (.bool (p v))):FnO prog 232 [.own 2000000,.fn fp caps] [(2000000,.row intE l 3 1)] [] (.own 2000000) [(2000000,.row intE (dl p l) 3 1)]:=by
 have Q:=zm6 p l;refine bF (ts:=[(0,.own 2000000),(1,.fn fp caps)]) (rv:=[.tmp 4]) (n:=42) (cs:=[]) (by kernel_rfl) func232 rfl ntmps232 rfl rfl (by simp) rfl rfl rfl rfl (λg w d vs=>?_);apply ye;refine ya ?_;apply yG;iterate 2 refine ya ?_
 refine zbt [(2000000,2000000)] (zcT l hl fp caps p H hp) rfl rfl rfl (.cons (kH _) (.cons (kC (zwv H)) .nil)) (by simp only[vW,List.all_nil,zyX H,Bool.and_true];rfl) rfl ⟨⟨_,_,rfl,rfl,kR _,rfl⟩,trivial⟩ rfl rfl rfl rfl ?_;refine gd ?_ ?_<;>intro w2
 ·apply ye;refine yO ?_;refine kE ?_;have he:=(Q.resolve_right (λ⟨k,_,h,_⟩=>by omega)).2;have G:l=dl p l:=he.symm;refine zou.mk (ts:=[(4,.own 2000000)]) (.inr rfl) (yd) (.one (.tmp rfl (kC rfl)))
 obtain⟨k0,v0,v9,N,E,xT⟩:=Q.resolve_left (λh=>by omega);have x1:k0<l.length:=(j1.1 N).1;have J:dl p (l.take (k0+1))=l.take k0:=by rw[zk0 N,j3 E,xT,wC]
 have x4:(dl p (l.take (k0+1))).length=k0:=by rw[J,jM];omega
 have U:l=dl p (l.take (k0+1))++l.drop (dl p (l.take (k0+1))).length:=by rw[x4,J,wD]
 refine gq ?_
 refine zd3 (ι:=Nat) (λ(k:Nat)=>[(0,.own 2000000),(1,.fn fp caps),(5,iv ((dl p (l.take k)).length:Int)),(6,iv (k:Int))]) (λ(k:Nat)=>[(1000001,.hold vs []),(2000000,.row intE (dl p (l.take k)++l.drop (dl p (l.take k)).length) 3 1)]) (λ(k:Nat)=>k<=l.length/\(dl p (l.take k)).length<k) (λ(k:Nat)=>l.length-k) (k0+1) (λk hk=>?_) (hJ:=by exact⟨by omega,by omega⟩) (h0:=by
  refine kY ⟨⟨_,rfl,kH _⟩,⟨_,rfl,kH _⟩,⟨_,rfl,kC (j5 (AV.int .i64) (by omega))⟩,⟨_,rfl,kC (j5 (AV.int .i64) (by omega))⟩,trivial⟩ ⟨⟨_,rfl,kR _⟩,⟨_,rfl,bB U⟩,trivial⟩)
 obtain⟨v8,v5⟩:=hk;have v4:(dl p (l.take k)++l.drop (dl p (l.take k)).length).length=l.length:=by simp;omega
 refine gd ?_ ?_<;>intro v3
 ·obtain⟨v,hv⟩:∃v,l[k]? =some v:=⟨_,lgg (by omega)⟩
  have v1:(dl p (l.take k)++l.drop (dl p (l.take k)).length)[(k:Int).toNat]? =some v:=by
   rw[wG,wY (by omega),w9,show(dl p (l.take k)).length+(k-(dl p (l.take k)).length)=k by omega];exact hv
  apply yk;apply yf;apply kB;apply ye;iterate 5 refine ya ?_
  apply yG;iterate 2 refine ya ?_
  refine Ex.call rfl rfl (by simpa[AV.nm.nmL,AV.nm]using H) (hp v (j6 hv)) rfl ?_;refine gd ?_ ?_<;>intro I
  ·have Z:dl p (l.take (k+1))=dl p (l.take k)++[v]:=by rw[zk0 hv,j4 (by simp[I])]
   have V:(dl p (l.take (k+1))).length=(dl p (l.take k)).length+1:=by rw[Z];simp
   have T:(dl p (l.take k)++l.drop (dl p (l.take k)).length).set (((dl p (l.take k)).length:Nat):Int).toNat v=dl p (l.take (k+1))++l.drop (dl p (l.take (k+1))).length:=by
    rw[V,Z,wG,xI _ _ (jD _),Nat.sub_self];have h9:(l.drop (dl p (l.take k)).length).set 0 v=v::l.drop ((dl p (l.take k)).length+1):=by rw[jG (show(dl p (l.take k)).length<l.length by omega)];rfl
    rw[h9];simp
   refine gq ?_
   refine yz (k+1) (hJ:=by
    refine⟨by omega,?_⟩;rw[V];omega)
  ·have Z:dl p (l.take (k+1))=dl p (l.take k):=by rw[zk0 hv,j3 (by simpa using I),wC]
   have V:(dl p (l.take (k+1))).length=(dl p (l.take k)).length:=by rw[Z]
   have T:dl p (l.take k)++l.drop (dl p (l.take k)).length=dl p (l.take (k+1))++l.drop (dl p (l.take (k+1))).length:=by rw[Z]
   refine gq ?_
   refine yz (k+1) (hJ:=by
    refine⟨by omega,?_⟩;rw[V];omega)
 ·have x3:k=l.length:=by omega
  subst x3;have x2:(((dl p (l.take l.length)).length:Nat):Int).toNat+((dl p (l.take l.length)++l.drop (dl p (l.take l.length)).length).length-(((dl p (l.take l.length)).length:Nat):Int).toNat)=(dl p (l.take l.length)++l.drop (dl p (l.take l.length)).length).length:=by rw[wG];omega
  apply kO;apply ye;iterate 2 refine ya ?_
  refine zz (zf rfl rfl rfl sl46 ty3 (by omega) (by omega)) rfl ?_;refine zaf (zte (0:Int) rfl rfl (λ_=>rfl) (by decide) sl46 ti3 rfl rfl rfl x2) ?_;refine gq ?_;refine zaf (zwR rfl rfl rfl sl46 ty3 (by omega) (by simp;omega) rfl) ?_;refine yh ?_;refine kE ?_
  have x0:List.take (((dl p (l.take l.length)).length:Nat):Int).toNat (List.take (((dl p (l.take l.length)).length:Nat):Int).toNat (dl p (l.take l.length)++l.drop (dl p (l.take l.length)).length)++List.replicate ((dl p (l.take l.length)++l.drop (dl p (l.take l.length)).length).length-(((dl p (l.take l.length)).length:Nat):Int).toNat) 0)=dl p l:=by
   rw[wG,wP (by simp),List.take_take,Nat.min_self,wP (jD _),jY (jD _),jY (jD _)]
  refine zou.mk (ts:=[(4,.own 2000000)]) (.inr rfl) (yd) (.one (.tmp rfl (kC rfl)))
end
end Go.Rse
