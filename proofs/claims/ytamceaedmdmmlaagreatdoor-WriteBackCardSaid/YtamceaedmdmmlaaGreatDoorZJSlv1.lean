/-
  Walks.
-/
import Derived.Test.YtamceaedmdmmlaaGreatDoorZJItem4
set_option linter.all false
set_option maxHeartbeats 4000000
namespace Go.Rse
open Go Go.Proofs Go.Proofs.Tryz
section
abbrev rdsA(l:List Rdg):AV:=.sl rdgE l
def NoR(l:List Sg):Prop:=∀x∈l,¬x.Kind=9/\¬x.Kind=10
def zA5{l:List Sg}(hl:l.length<=400):∀r∈rusV l,(rdV r.M r.S).Dots.length<=4000/\(rdV r.M r.S).Minor.length<=4000/\(rdV r.M r.S).Choices.length<=10000/\(rdV r.M r.S).Durs.length<=4000:=λr hr=>by
 have h1:=zot r hr;have Z:=zqS r.M (l:=r.S) (by omega);omega
def zA6{l:List Sg}(hl:l.length<=400):((rsR (rusV l)).flatMap (·.Dots)).length<=4100000/\((rsR (rusV l)).flatMap (·.Minor)).length<=4100000/\((rsR (rusV l)).flatMap (·.Choices)).length<=4100000/\((rsR (rusV l)).flatMap (·.Durs)).length<=4100000:=by
 have Z:=zA5 hl;have hn:=zmz l;have V:(rsR (rusV l)).length<=401:=by unfold rsR;rw[jS];omega
 have mem:∀x∈rsR (rusV l),∃r∈rusV l,rdV r.M r.S=x:=λx hx=>by unfold rsR at hx;exact jW.1 hx
 refine⟨?_,?_,?_,?_⟩
 ·exact jT (zmA (b:=4000) λx hx=>by obtain⟨r,hr,rfl⟩:=mem x hx;exact(Z r hr).1) (by omega)
 ·exact jT (zmA (b:=4000) λx hx=>by obtain⟨r,hr,rfl⟩:=mem x hx;exact(Z r hr).2.1) (by omega)
 ·exact jT (zmA (b:=10000) λx hx=>by obtain⟨r,hr,rfl⟩:=mem x hx;exact(Z r hr).2.2.1) (by omega)
 ·exact jT (zmA (b:=4000) λx hx=>by obtain⟨r,hr,rfl⟩:=mem x hx;exact(Z r hr).2.2.2) (by omega)
def zA7{L:List Ru}{k:Nat}{r:Ru}(h:L[k]? =some r)(Z:rsK L 0=rsK (L.drop k) k)(c:rdE r.M r.S=0):rsK L 0=rsK (L.drop (k+1)) (k+1):=by rw[Z,zou h,zwa c]
def zA8{L:List Ru}{k:Nat}{r:Ru}(h:L[k]? =some r)(Z:rsK L 0=rsK (L.drop k) k)(c:¬rdE r.M r.S=0):rsK L 0=(rdE r.M r.S,(k:Int)):=by rw[Z,zou h,zAh c]
def zyx{L:List Ru}(Z:rsK L 0=rsK (L.drop L.length) L.length):rsK L 0=(0,0):=by rw[Z,wT,rsK]
attribute [local irreducible] Pur yy yz Ex X Fn Imp LeV LeB FnO It yH FnW FnOW FnP FnD
attribute [local irreducible] ufS clS ckM nmQ bsB scS scV scX rcK rcV rcI rdE rdV rusV rsR rsK
def zj5(l:List Sg)(hl:l.length<=4000000)(hr:NoR l):Fn prog 121 [sgsA l] (.tup [.nils,iv 0,.bool true]):=by
 refine kR func121 ntmps121 (λg w d=>?_);apply ye;iterate 3 refine ya ?_
 apply yE;refine ya ?_;apply yE;refine yj ?_;apply yh;apply ye;refine yC ?_;apply kP;refine zm (λk=>[(5,.nils),(6,.bool false),(10,sgsA l),(11,iv (l.length:Int)),(12,iv (k:Int))]) (λk=>[]) l.length (λk hk=>?_);refine gd ?_ ?_<;>intro x4
 ·have V:=@getX _ l k (by omega);obtain⟨x,hx,x3⟩:=V;have Z:=hr x (j8 hx);refine gd ?_ ?_<;>intro U
  ·have T:=U;refine gd ?_ ?_<;>intro N
   ·refine gd ?_ ?_<;>intro J
    ·cases J
    refine gq ?_;refine yu (k+1) (hI:=yg)
   ·exact absurd T N
  ·refine gd ?_ ?_<;>intro x2
   ·refine gd ?_ ?_<;>intro H
    ·cases H
    refine gq ?_;refine yu (k+1) (hI:=yg)
   ·refine gd ?_ ?_<;>intro G
    ·exact absurd G Z.1
    refine gd ?_ ?_<;>intro E
    ·exact absurd E Z.2
    refine gq ?_;refine yu (k+1) (hI:=yg)
 ·refine gd ?_ ?_<;>intro xT
  ·cases xT
  refine gq ?_;refine kY (.many (by decide) (.cons (.tmp rfl (kO ?_)) (.cons (.tmp rfl (kO ?_)) (.cons (.tmp rfl (kO ?_)) .nil))));all_goals exact zR
def zi4(s:ByteArray)(l:List Sg)(h:PtK s l)(hr:NoR l):Fn prog 71 [.agg [.str s,sgsA l]] (.tup [iv 0,iv 0]):=by
 have hl:=h.hl;refine kR func71 ntmps71 (λg w d=>?_);refine gc (zgB s l h.hs h.hn h.hl h.hk) ?_;refine gd ?_ ?_<;>intro Z
 ·exact absurd Z (by decide)
 refine gc (zj5 l (by omega) hr) ?_;refine gd ?_ ?_<;>intro V
 ·cases V
 refine gq ?_;refine yl ?_ ?_;all_goals exact zR
def zh1(s:ByteArray)(l:List Sg)(h:PtK s l)(hr:NoR l)(hok:ScOk l):Fn prog 45 [.agg [.str s,sgsA l]] (.agg [iv 0,iv 0]):=by
 refine kR func45 ntmps45 (λg w d=>?_);refine gc (zi4 s l h hr) ?_;refine gd ?_ ?_<;>intro Z
 ·exact absurd Z (by decide)
 refine gc (zcQ s l h hok) ?_;refine kY (.one (.cellA rfl rfl rfl rfl ty52 (kO ?_)));all_goals exact zR
def zht(r:Ru)(hl:r.S.length<=1000):Fn prog 46 [.agg (ruE r)] (.tup [rdgA (rdV r.M r.S),iv (rdE r.M r.S)]):=by
 refine kR func46 ntmps46 (λg w d=>?_);refine gc (zhC r.M r.S hl) ?_;refine yx ty50 ?_ ?_;all_goals exact zR
def zlN(s:ByteArray)(l:List Sg)(h:PtK s l)(hok:ScOk l):Fn prog 47 [.agg [.str s,sgsA l]] (.sl ruE (rusV l)):=by
 have hl:=h.hl;have T:=zlt l;have z0:[]=(rusV l).take 0:=by simp
 have Z:(rusV l).length=(scV l).length:=by unfold rusV;rw[jS]
 refine kR func47 ntmps47 (λg w d=>?_);refine gq ?_;refine yR (zcQ s l h hok) ?_;iterate 5 refine ya ?_
 apply yE;refine yj ?_;iterate 2 apply yh
 refine kT (yG ruE 97 5 5 30 rfl rfl) ?_;apply yf;refine yC ?_;apply kP;refine zm (λk=>[(1,.ptr 1 0 0 0),(5,.own 30),(16,scsA (scV l)),(17,iv ((scV l).length:Int)),(18,iv (k:Int))]) (λk=>[(1,.box [.str s,sgsA l] 46),(30,.row ruE ((rusV l).take k) 97 5)]) ((scV l).length) (λk hk=>?_);refine gd ?_ ?_<;>intro N
 ·have V:=@getX _ (scV l) k (by omega);obtain⟨c,U,J⟩:=V;have H:=ziW (zxx U);have G:((rusV l).take k).length<=1000:=by rw[jO];omega
  refine gc (zj0 s l h hok k c U) ?_;refine yD ruE [⟨c.M,rcV l c⟩] ?_;refine gq ?_;refine yu (k+1) (hI:=yg)
 ·obtain rfl:k=(scV l).length:=by omega
  have E:(rusV l).take (scV l).length=rusV l:=by rw[←Z,jK]
  apply bA;apply ye;refine yQ ?_;refine kQ ?_;refine kM (kL (k:=30) rfl) ?_;refine gq ?_;all_goals(first|exact j9 (λz=>AV.sl ruE z) E|rfl)
def zi5(r:Rdg):Fn prog 75 [rdgA r] (yc r.Dots):=by
 refine kR func75 ntmps75 (λg w d=>?_);refine gq ?_;all_goals exact zR
def zi6(r:Rdg):Fn prog 76 [rdgA r] (yc r.Minor):=by
 refine kR func76 ntmps76 (λg w d=>?_);refine gq ?_;all_goals exact zR
def zi7(r:Rdg):Fn prog 77 [rdgA r] (yc r.Choices):=by
 refine kR func77 ntmps77 (λg w d=>?_);refine gq ?_;all_goals exact zR
def zi8(r:Rdg):Fn prog 79 [rdgA r] (tmsA r.Durs):=by
 refine kR func79 ntmps79 (λg w d=>?_);refine gq ?_;all_goals exact zR
def zB(L:List Rdg)(fid:FuncId)(f:Rdg->List Int)(hf:∀r,Fn prog fid [rdgA r] (.sl intE (f r)))(T:(L.flatMap f).length<=4100000)(G:L.length<=4000):Fn prog 74 [rdsA L,.fn fid []] (.sl intE (L.flatMap f)):=by
 have z0:[]=(L.take 0).flatMap f:=by simp
 refine kR func74 ntmps74 (λg w d=>?_);apply ye;refine ya ?_;apply yE;refine yj ?_;iterate 2 apply yh
 refine kT (yG intE 3 1 5 30 rfl rfl) ?_;apply yf;refine yC ?_;apply kP;refine zm (λk=>[(1,.fn fid []),(5,.own 30),(8,rdsA L),(9,iv (L.length:Int)),(10,iv (k:Int))]) (λk=>[(30,.row intE ((L.take k).flatMap f) 3 1)]) L.length (λk hk=>?_);refine gd ?_ ?_<;>intro N
 ·have Z:=@getX _ L k (by omega);obtain⟨x,hx,J⟩:=Z;have V:=zAi (f:=f) hx;have U:((L.take k).flatMap f++f x).length<=4100000:=by rw[V];exact jT (zwb f L _) T
  rw[jC]at U;refine gc (hf x) ?_;refine yu (k+1) (hI:=yg)
 ·obtain rfl:k=L.length:=by omega
  have H:(L.take L.length).flatMap f=L.flatMap f:=by rw[jK]
  apply bA;apply ye;refine yQ ?_;refine kQ ?_;refine kM (kL (k:=30) rfl) ?_;refine gq ?_;all_goals(first|exact j9 (λz=>AV.sl intE z) H|rfl)
def za9(L:List Rdg)(fid:FuncId)(f:Rdg->List Tm)(hf:∀r,Fn prog fid [rdgA r] (.sl tmE (f r)))(T:(L.flatMap f).length<=4100000)(G:L.length<=4000):Fn prog 78 [rdsA L,.fn fid []] (.sl tmE (L.flatMap f)):=by
 have z0:[]=(L.take 0).flatMap f:=by simp
 refine kR func78 ntmps78 (λg w d=>?_);apply ye;refine ya ?_;apply yE;refine yj ?_;iterate 2 apply yh
 refine kT (yG tmE 61 2 5 30 rfl rfl) ?_;apply yf;refine yC ?_;apply kP;refine zm (λk=>[(1,.fn fid []),(5,.own 30),(8,rdsA L),(9,iv (L.length:Int)),(10,iv (k:Int))]) (λk=>[(30,.row tmE ((L.take k).flatMap f) 61 2)]) L.length (λk hk=>?_);refine gd ?_ ?_<;>intro N
 ·have Z:=@getX _ L k (by omega);obtain⟨x,hx,J⟩:=Z;have V:=zAi (f:=f) hx;have U:((L.take k).flatMap f++f x).length<=4100000:=by rw[V];exact jT (zwb f L _) T
  rw[jC]at U;refine gc (hf x) ?_;refine yu (k+1) (hI:=yg)
 ·obtain rfl:k=L.length:=by omega
  have H:(L.take L.length).flatMap f=L.flatMap f:=by rw[jK]
  apply bA;apply ye;refine yQ ?_;refine kQ ?_;refine kM (kL (k:=30) rfl) ?_;refine gq ?_;all_goals(first|exact j9 (λz=>AV.sl tmE z) H|rfl)
def zlO(L:List Rdg)(Z:L.length<=4000)(h1:(L.flatMap (·.Dots)).length<=4100000)(V:(L.flatMap (·.Minor)).length<=4100000)(U:(L.flatMap (·.Choices)).length<=4100000)(T:(L.flatMap (·.Durs)).length<=4100000):Fn prog 48 [rdsA L] (rdgA (joV L)):=by
 refine kR func48 ntmps48 (λg w d=>?_);refine gc (zB L _ (·.Dots) zi5 h1 Z) ?_;refine gc (zB L _ (·.Minor) zi6 V Z) ?_;refine gc (zB L _ (·.Choices) zi7 U Z) ?_;refine gc (za9 L _ (·.Durs) zi8 T Z) ?_;refine kY (.one (.cellA rfl rfl rfl rfl ty50 (kO ?_)));all_goals exact zR
def zlP(s:ByteArray)(l:List Sg)(h:PtK s l)(hr:NoR l)(hok:ScOk l):Fn prog 15 [.agg [.str s,sgsA l]] (.tup [rdgA (rpV l),.agg [iv (rsK (rusV l) 0).1,iv (rsK (rusV l) 0).2]]):=by
 have hl:=h.hl;have E:=zmz l;have U:=zA6 hl;obtain⟨j1,j2,j3,j4⟩:=U;have z0:[]=rsR ((rusV l).take 0):=by unfold rsR;rfl
 have xT:(rsR (rusV l)).length=(rusV l).length:=by unfold rsR;rw[jS]
 refine kR func15 ntmps15 (λg w d=>?_);refine gc (zh1 s l h hr hok) ?_;refine gd ?_ ?_<;>intro T
 ·exact absurd T (by decide)
 apply yk;apply ye;refine ya ?_;apply yE;refine yj ?_;iterate 2 apply yh
 refine kT (yG rdgE 50 4 6 30 rfl rfl) ?_;refine gq ?_;refine yR (zlN s l h hok) ?_;refine yQ ?_;apply kP;refine zW (λk=>[(2,.ptr 2 0 0 0),(3,.ptr 3 0 0 0),(5,.fn 46 []),(6,.own 30),(19,.sl ruE (rusV l)),(20,iv ((rusV l).length:Int)),(21,iv (k:Int))]) (λk=>[(2,.box [.nils,.nils,.nils,.nils] 50),(3,.box [iv 0,iv 0] 52),(30,.row rdgE (rsR ((rusV l).take k)) 50 4)]) (λk=>k<=(rusV l).length/\rsK (rusV l) 0=rsK ((rusV l).drop k) k) ((rusV l).length) (λk hk=>?_) (hJ:=by exact⟨wK _,rfl⟩);obtain⟨k1,k2⟩:=hk;refine gd ?_ ?_<;>intro x4
 ·have N:=@getX _ (rusV l) k (by omega);obtain⟨r,Z,x3⟩:=N;have J:r.S.length<=1000:=by have:=zot r (j8 Z);omega
  have x2:=zAj Z;have x1:(rsR ((rusV l).take k)).length<=1000:=by unfold rsR;rw[jS,jO];omega
  refine gc (zht r J) ?_;refine gd ?_ ?_<;>intro V
  ·have hE:=zA8 Z k2 V;have H:rpV l=⟨[],[],[],[]⟩:=by unfold rpV;rw[hE];exact j7 V
   apply ye;(iterate 4 refine ya ?_);(iterate 2 refine kV ?_);apply kW;refine kQ ?_;refine kM (bL (ts:=[(2,.ptr 2 0 0 0),(3,.ptr 3 0 0 0)]) (hs:=[(2,.box [yc [],yc [],yc [],tmsA []] 50),(3,.box [iv (rdE r.M r.S),iv (k:Int)] 52)]) ⟨⟨_,rfl,kX _⟩,⟨_,rfl,kX _⟩,True.intro⟩ ⟨⟨_,rfl,bQ (.cons (bB _) (.cons (bB _) (.cons (bB _) (.cons (bB _) .nil))))⟩,⟨_,rfl,bD _⟩,True.intro⟩) ?_;refine kY (.many (by decide) (.cons (.cellA rfl rfl rfl rfl ty50 (kO ?_)) (.cons (.cellA rfl rfl rfl rfl ty52 (kO ?_)) .nil)));all_goals(first|exact zE H|exact zE hE)
  have G:=zA7 Z k2 (by omega);refine gq ?_;refine yD rdgE [rdV r.M r.S] ?_;refine gq ?_;refine yu (k+1) (hJ:=by exact⟨by omega,G⟩) (hI:=yg)
 ·obtain rfl:k=(rusV l).length:=by omega
  have hE:=zyx k2;have H:rpV l=joV (rsR (rusV l)):=by unfold rpV;rw[hE];exact j6 rfl
  have hT:rsR ((rusV l).take (rusV l).length)=rsR (rusV l):=by rw[jK]
  apply bA;apply ye;refine ya ?_;refine bF (kL (k:=30) rfl) ?_;rw[hT];refine gc (zlO (rsR (rusV l)) (by omega) j1 j2 j3 j4) ?_;refine kY (.many (by decide) (.cons (.cellA rfl rfl rfl rfl ty50 (kO ?_)) (.cons (.cellA rfl rfl rfl rfl ty52 (kO ?_)) .nil)));all_goals(first|exact zE H|exact zE hE)
end
section
attribute [local irreducible] Pur yy yz Ex X LeV LeB FnO It yH
attribute [local irreducible] Fn
def bthE(m:Mn)(t:Tm):Int:=if ckM m=0 then ckT t else ckM m
def zrT{m:Mn}{t:Tm}(h:bthE m t=0):ckM m=0/\ckT t=0:=by
 unfold bthE at h;split at h
 ·exact⟨by assumption,h⟩
 ·exact absurd h (by assumption)
attribute [local irreducible] yw durT mulV mulE whQ whR whE yM bthE
def zlQ(m:Mn)(t:Tm):Fn prog 124 [mnA m,tmA t] (iv (bthE m t)):=by
 refine kR func124 ntmps124 (λg w d=>?_);refine gc (zaw m) ?_;refine gd ?_ ?_<;>intro Z
 ·refine gq ?_;all_goals(unfold bthE;first|(rw[j7 Z];done)|(rw[j6 Z];done))
 refine gc (zcx t) ?_;all_goals(unfold bthE;first|(rw[j7 Z];done)|(rw[j6 Z];done))
def za1(m:Mn)(v:Int)(hm:ckM m=0)(h1:1<=v)(Z:v<=8):Fn prog 175 [mnA m,iv v] (tmA (yw m v)):=by
 refine kR func175 ntmps175 (λg w d=>?_);refine gc (zaZ hm h1 Z) ?_;refine kY (.one (.cellA rfl rfl rfl rfl ty61 (kO ?_)));all_goals rfl
def zcj(m:Mn)(v:Int)(hm:ckM m=0)(h1:1<=v)(Z:v<=8):Fn prog 177 [mnA m,iv v] (.bool (decide (m.p v=3))):=by
 refine kR func177 ntmps177 (λg w d=>?_);refine gc (zfB hm h1 Z) ?_;all_goals rfl
def zdq(t:Tm)(n q:Int):Fn prog 178 [tmA t,iv n,iv q] (tmsA [mulV t ⟨n,q⟩]):=by
 refine kR func178 ntmps178 (λg w d=>?_);refine gc (zd2 t ⟨n,q⟩) ?_;refine yD tmE [mulV t ⟨n,q⟩] ?_;refine yj ?_;refine kQ ?_;refine kM (kL (k:=18) rfl) ?_;refine gq ?_;all_goals rfl
def zeH(m:Mn)(v:Int)(hm:ckM m=0)(h1:1<=v)(V:v<=8):Fn prog 182 [mnA m,iv v] (tmA (durT m v)):=by
 have Z:=zmk m v;rw[znt hm h1 V,j6 rfl]at Z;refine kR func182 ntmps182 (λg w d=>?_);refine gc Z ?_;refine kY (.one (.cellA rfl rfl rfl rfl ty61 (kO ?_)));all_goals rfl
end
section
attribute [local irreducible] Pur yy yz Ex X Fn Imp LeV LeB FnO It yH
def lsL(m:Mn)(v:Int):Nat->Int->Tm->Bool->List Tm
 |0,k,t,b=>if b=true/\0<t.N then[t]else[]
 |n+1,k,t,b=>lsL m v n (k+1) t b++(if m.p k=3 then
  (if subE t (yw m (k+1))=0 then lsL m v n (k+1) (subV t (yw m (k+1))) true++
   (if v<k/\subE (subV t (yw m (k+1))) (yw m (k+1))=0 then lsL m v n (k+1) (subV (subV t (yw m (k+1))) (yw m (k+1))) true else[])else[])else[])
def lsT(m:Mn)(k:Int)(t:Tm):Nat->Tm
 |0=>t
 |j+1=>subV (lsT m k t j) (yw m (k+1))
def lsR(m:Mn)(v:Int)(n:Nat)(k:Int)(t:Tm)(b:Bool)(L:List Tm):Nat->List Tm
 |0=>L++lsL m v n (k+1) t b
 |j+1=>lsR m v n k t b L j++lsL m v n (k+1) (lsT m k t (j+1)) true
def zfh(m:Mn)(v:Int):∀(n:Nat)(k:Int)(t:Tm)(b:Bool),(lsL m v n k t b).length<=3^n
 |0,k,t,b=>by unfold lsL;split<;>simp
 |n+1,k,t,b=>by
  have h0:=zfh m v n (k+1) t b;have h1:=zfh m v n (k+1) (subV t (yw m (k+1))) true;have Z:=zfh m v n (k+1) (subV (subV t (yw m (k+1))) (yw m (k+1))) true;have V:3^(n+1)=3^n*3:=kA ..;unfold lsL;simp only[jC];split
  ·split
   ·simp only[jC];split
    ·omega
    ·simp;omega
   ·simp;omega
  ·simp;omega
def zlR(m:Mn)(v:Int)(n:Nat)(k:Int)(t:Tm)(b:Bool)(L:List Tm):∀j,(lsR m v n k t b L j).length<=L.length+(j+1)*3^n
 |0=>by have:=zfh m v n (k+1) t b;unfold lsR;simp;omega
 |j+1=>by
  have h1:=zlR m v n k t b L j;have Z:=zfh m v n (k+1) (lsT m k t (j+1)) true;have V:(j+1+1)*3^n=(j+1)*3^n+3^n:=xO ..;unfold lsR;simp only[jC];omega
def zyy{m:Mn}{v:Int}{n:Nat}{k:Int}{t:Tm}{b:Bool}{L:List Tm}(Z:¬m.p k=3):lsR m v n k t b L 0=L++lsL m v (n+1) k t b:=by
 simp only[lsR,lsL,j7 Z,wO]
def zA9{m:Mn}{v:Int}{n:Nat}{k:Int}{t:Tm}{b:Bool}{L:List Tm}(Z:m.p k=3)(h:¬subE (lsT m k t 0) (yw m (k+1))=0):lsR m v n k t b L 0=L++lsL m v (n+1) k t b:=by
 simp only[lsT]at h;simp only[lsR,lsL,j6 Z,j7 h,wO]
def zwA{m:Mn}{v:Int}{n:Nat}{k:Int}{t:Tm}{b:Bool}{L:List Tm}(Z:m.p k=3)(h0:subE (lsT m k t 0) (yw m (k+1))=0)(h:¬v<k\/¬subE (lsT m k t 1) (yw m (k+1))=0):lsR m v n k t b L 1=L++lsL m v (n+1) k t b:=by
 simp only[lsT]at h h0;simp only[lsR,lsL,lsT,j6 Z,j6 h0];rw[j7 (λe=>by rcases h with h|h;exact h e.1;exact h e.2)];simp
def zBa{m:Mn}{v:Int}{n:Nat}{k:Int}{t:Tm}{b:Bool}{L:List Tm}(Z:m.p k=3)(h0:subE (lsT m k t 0) (yw m (k+1))=0)(h:v<k)(h1:subE (lsT m k t 1) (yw m (k+1))=0):lsR m v n k t b L 2=L++lsL m v (n+1) k t b:=by
 simp only[lsT]at h1 h0;simp only[lsR,lsL,lsT,j6 Z,j6 h0,j6 (show v<k/\_ from⟨h,h1⟩)];simp
def wdL(m:Mn)(v:Int)(n:Nat):List Tm:=
 if n=1\/n=8 then[yw m v]
 else if n=2 then(if m.p v=3 then[]else[mulV (yw m v) ⟨3,2⟩])
 else if n=3 then lsL m v (5-v).toNat v (yw m v) false
 else if n=4 then(if v=1\/¬m.p (v-1)=3 then[]else[mulV (yw m v) ⟨2,1⟩])
 else if n=5 then[durT m v]
 else if n=6 then[mulV (durT m v) ⟨3,2⟩]
 else if n=7 then(if m.Pro=2/\v=4 then[⟨3,2⟩]else if m.Pro=2/\v=5 then[⟨1,2⟩]else[])
 else[]
def zwB:List AV:=[.bool false,.bool false,.bool false,.nilf,.bool false,.bool false,.bool false,.fn 174 [],.bool false,.bool false,.bool true,.fn 176 [],.bool false,.bool false,.bool false,.fn 179 [],.bool false,.bool false,.bool false,.fn 180 [],
 .bool false,.bool true,.bool false,.fn 181 [],.bool false,.bool true,.bool true,.fn 183 [],.bool false,.bool true,.bool false,.fn 184 [],.bool true,.bool false,.bool false,.fn 185 []]
attribute [local irreducible] yw durT mulV mulE subV subE
theorem zkW.imp{P:Program}{C:Ctx}{rv:List ResultVar}{r:AV}{vs:List Value}{cs:List AV}{Z:List (Nat×Blk)}{e:Exit}{st st':St}(hi:Imp C st st')(h:zkW P C rv r vs cs Z e st'):zkW P C rv r vs cs Z e st:=by
 obtain⟨h1,ts,ex,V,U⟩:=h;exact⟨h1,ts,ex,hi.trans V,U⟩
def zi9(m:Mn)(hm:ckM m=0)(v:Int)(n:Nat)(k:Int)(t:Tm)(b:Bool)(L:List Tm)(hn:(5-k).toNat=n)(h1:1<=k)(h8:k<=8)(hL:L.length+3^n<=1000):FnO prog 235 [iv k,tmA t,.bool b,.ptr 2000000 0 0 0,.ptr 2000001 0 0 0,.ptr 2000002 0 0 0,.ptr 2000003 0 0 0] [(2000000,.box [.own 2000010] 38),(2000001,.box [.fn 235 [.ptr 2000000 0 0 0,.ptr 2000001 0 0 0,.ptr 2000002 0 0 0,.ptr 2000003 0 0 0]] 297),(2000002,.box (mnE m) 27),(2000003,.box [iv v] 3),(2000010,.row tmE (L) 61 2)] [2000000,2000001,2000002,2000003] (.tup []) [(2000000,.box [.own 2000011] 38),(2000001,.box [.fn 235 [.ptr 2000000 0 0 0,.ptr 2000001 0 0 0,.ptr 2000002 0 0 0,.ptr 2000003 0 0 0]] 297),(2000002,.box (mnE m) 27),(2000003,.box [iv v] 3),(2000011,.row tmE (L++lsL m v n k t b) 61 2)]:=by
 induction n using Nat.strongRecOn generalizing k t b L
 rename_i n ih;refine bH (ts:=[(0,iv k),(1,tmA t),(2,.bool b),(3,.ptr 2000000 0 0 0),(4,.ptr 2000001 0 0 0),(5,.ptr 2000002 0 0 0),(6,.ptr 2000003 0 0 0)]) (rv:=[]) (n:=67) (cs:=[.ptr 2000000 0 0 0,.ptr 2000001 0 0 0,.ptr 2000002 0 0 0,.ptr 2000003 0 0 0]) (by kernel_rfl) func235 rfl ntmps235 rfl rfl (by simp) rfl rfl rfl rfl (λg w d vs=>?_);refine gd ?_ ?_<;>intro xT
 ·have G:n=0:=by omega
  subst G;apply yh;apply ye;refine ya ?_;refine kU 1 ?_;refine yo ?_;iterate 3 refine kS ?_
  refine gf ?_ ?_<;>intro T
  ·have Z:L++[t]=L++lsL m v 0 k t b:=by unfold lsL;rw[j6 T]
   refine gq ?_;refine yD tmE [⟨_,_⟩] ?_;(iterate 2 refine kV ?_);apply kW;refine kQ ?_;refine zkW.imp (bN 2000010 2000011 rfl rfl) ?_;refine zkW.mk [] [] (.inr rfl) (.many (by decide) .nil);all_goals rfl
  ·have Z:L=L++lsL m v 0 k t b:=by
    unfold lsL;rw[j7 (λe=>by rcases T with h|h;rw[e.1]at h;cases h;omega)];simp
   apply yk;refine kQ ?_;refine zkW.imp (bN 2000010 2000011 rfl rfl) ?_;refine zkW.mk [] [] (.inr rfl) (.many (by decide) .nil);all_goals rfl
 obtain⟨q,rfl⟩:∃q,n=q+1:=⟨n-1,by omega⟩;have h3:3^(q+1)=3^q*3:=kA ..;refine gq ?_;refine zZ [(2000000,2000000),(2000001,2000001),(2000002,2000002),(2000003,2000003),(2000010,2000010),(2000011,2000012)] (ih q (by omega) (k+1) (t) b (L) (by omega) (by omega) (by omega) (by omega)) ?_;refine gc (zcj m k hm h1 h8) ?_;refine gd ?_ ?_<;>intro N
 ·have Z:=zyy (v:=v) (n:=q) (t:=t) (b:=b) (L:=L) N;refine kQ ?_;refine zkW.imp (bN 2000012 2000011 rfl rfl) ?_;refine zkW.mk [] [] (.inr rfl) (.many (by decide) .nil);all_goals rfl
 have H:m.p k=3:=N;refine gq ?_;refine yR (za1 m (k+1) hm (by omega) (by omega)) ?_;refine za ?_;refine kV ?_;apply yE;refine yj ?_;apply kP;refine zW (λj=>[(0,iv k),(3,.ptr 2000000 0 0 0),(4,.ptr 2000001 0 0 0),(5,.ptr 2000002 0 0 0),(6,.ptr 2000003 0 0 0),(8,.ptr 8 0 0 0),(10,.ptr 10 0 0 0),(11,iv (1+(j:Int)))]) (λj=>[(1000001,.hold vs [.ptr 2000000 0 0 0,.ptr 2000001 0 0 0,.ptr 2000002 0 0 0,.ptr 2000003 0 0 0]),(2000000,.box [.own 2000012] 38),(2000001,.box [.fn 235 [.ptr 2000000 0 0 0,.ptr 2000001 0 0 0,.ptr 2000002 0 0 0,.ptr 2000003 0 0 0]] 297),(2000002,.box (mnE m) 27),(2000003,.box [iv v] 3),(2000012,.row tmE (lsR m v q k t b L j) 61 2),(8,.box (tmE (lsT m k t j)) 61),(10,.box (tmE (yw m (k+1))) 61)]) (λj=>j<=2/\(∀i,i<j->subE (lsT m k t i) (yw m (k+1))=0)/\(j=2->v<k)) 2 (λj hk=>?_) (hJ:=by exact⟨by omega,λi hi=>by omega,λh=>by omega⟩);obtain⟨x4,hJ,h2⟩:=hk;apply yh;apply ye;iterate 2 refine ya ?_
 refine kU 2 ?_;refine yo ?_;iterate 7 refine kS ?_
 refine gf ?_ ?_<;>intro x3
 ·have V:j=0\/(j=1/\v<k):=by omega
  have E:(lsR m v q k t b L j).length+3^q<=1000:=by
   rcases V with rfl|⟨rfl,_⟩
   ·have:=zlR m v q k t b L 0;omega
   ·have:=zlR m v q k t b L 1;omega
  refine gc (zcU (lsT m k t j) (yw m (k+1))) ?_;refine gd ?_ ?_<;>intro U
  ·have Z:lsR m v q k t b L j=L++lsL m v (q+1) k t b:=by
    rcases V with rfl|⟨rfl,x2⟩
    ·exact zA9 H U
    ·exact zwA H (hJ 0 (by omega)) (.inr U)
   refine kQ ?_;refine zkW.imp (bN 2000012 2000011 rfl rfl) ?_;refine zkW.mk [] [] (.inr rfl) (.many (by decide) .nil);all_goals rfl
  refine gq ?_;refine zZ [(2000000,2000000),(2000001,2000001),(2000002,2000002),(2000003,2000003),(2000010,2000012),(2000011,2000013)] (ih q (by omega) (k+1) (lsT m k t (j+1)) true (lsR m v q k t b L j) (by omega) (by omega) (by omega) E) ?_;apply kW;refine kT (st':=⟨[(0,iv k),(3,.ptr 2000000 0 0 0),(4,.ptr 2000001 0 0 0),(5,.ptr 2000002 0 0 0),(6,.ptr 2000003 0 0 0),(8,.ptr 8 0 0 0),(10,.ptr 10 0 0 0),(11,iv (1+(j:Int)))],[(1000001,.hold vs [.ptr 2000000 0 0 0,.ptr 2000001 0 0 0,.ptr 2000002 0 0 0,.ptr 2000003 0 0 0]),(2000000,.box [.own 2000013] 38),(2000001,.box [.fn 235 [.ptr 2000000 0 0 0,.ptr 2000001 0 0 0,.ptr 2000002 0 0 0,.ptr 2000003 0 0 0]] 297),(2000002,.box (mnE m) 27),(2000003,.box [iv v] 3),(2000013,.row tmE (lsR m v q k t b L (j+1)) 61 2),(8,.box (tmE (lsT m k t (j+1))) 61),(10,.box (tmE (yw m (k+1))) 61)]⟩) yg ?_;refine kT (bN 2000013 2000012 rfl rfl) ?_;refine gq ?_
  refine yu (j+1) (hJ:=by
   refine⟨by omega,λi hi=>?_,λh=>by omega⟩;rcases wD i j with h|h
   ·exact hJ i h
   ·rw[show i=j by omega];exact U) (hI:=yg)
 ·have J:(j=1/\¬v<k)\/j=2:=by omega
  have Z:lsR m v q k t b L j=L++lsL m v (q+1) k t b:=by
   rcases J with⟨rfl,h⟩|rfl
   ·exact zwA H (hJ 0 (by omega)) (.inl h)
   ·exact zBa H (hJ 0 (by omega)) (h2 rfl) (hJ 1 (by omega))
  apply bA;refine zkW.imp (bN 2000012 2000011 rfl rfl) ?_;refine zkW.mk [] [] (.inl rfl) (.many (by decide) .nil);all_goals rfl
def zlS(m:Mn)(v:Int)(hm:ckM m=0)(h1:1<=v)(Z:v<=8):Fn prog 179 [mnA m,iv v] (tmsA (wdL m v 3)):=by
 have V:3^(5-v).toNat<=3^4:=vA (by decide) (by omega);have U:3^4=81:=rfl;refine kR func179 ntmps179 (λg w d=>?_);refine gq ?_;refine ze0 ?_;refine ya ?_;apply yE;refine za ?_;apply yE;refine za ?_;apply yE;refine ya ?_;refine kV ?_;apply kW;apply yh;refine kT (zbo tmE 61 2 5 20 38 rfl rfl) ?_;refine yW [8,9,10,11,12] [0,0,0,0,12,31] mo ?_;iterate 4 refine yb ?_
 refine yO (za1 m v hm h1 Z) ?_;refine yI ?_;refine zZ [(2000000,5),(2000001,6),(2000002,2),(2000003,3),(2000010,20),(2000011,21)] (zi9 m hm v (5-v).toNat v (yw m v) false [] rfl h1 Z (by simp;omega)) ?_;apply yE;refine yQ ?_;refine kQ ?_;refine kM (kL (k:=21) rfl) ?_;refine gq ?_;all_goals(first|rfl|(simp[wdL, *];done)|(simp[wdL, *];rfl)|(simp[wdL];omega))
def zja(m:Mn)(v:Int)(hm:ckM m=0)(h1:1<=v)(Z:v<=8):Fn prog 174 [mnA m,iv v] (tmsA (wdL m v 1)):=by
 refine kR func174 ntmps174 (λg w d=>?_);refine gq ?_;refine yR (za1 m v hm h1 Z) ?_;refine yD tmE [yw m v] ?_;refine yj ?_;refine kQ ?_;refine kM (kL (k:=8) rfl) ?_;refine gq ?_;all_goals(first|rfl|(simp[wdL, *];done)|(simp[wdL, *];rfl)|(simp[wdL];omega))
def zjb(m:Mn)(v:Int)(hm:ckM m=0)(h1:1<=v)(Z:v<=8):Fn prog 176 [mnA m,iv v] (tmsA (wdL m v 2)):=by
 refine kR func176 ntmps176 (λg w d=>?_);refine gc (zcj m v hm h1 Z) ?_;refine gd ?_ ?_<;>intro V
 ·apply ye;refine yj ?_;refine kQ ?_;refine kM (yd (ts:=[(4,tmsA [])]) (hs:=[])) ?_;refine gq ?_;all_goals(first|rfl|(simp[wdL, *];done)|(simp[wdL, *];rfl)|(simp[wdL];omega))
 refine gq ?_;refine yR (za1 m v hm h1 Z) ?_;refine gc (zdq (yw m v) 3 2) ?_;all_goals(simp[wdL, *])
def zjc(m:Mn)(v:Int)(hm:ckM m=0)(h1:1<=v)(Z:v<=8):Fn prog 180 [mnA m,iv v] (tmsA (wdL m v 4)):=by
 refine kR func180 ntmps180 (λg w d=>?_);apply ye;refine zz ?_;refine yj ?_;apply yh;apply ye;iterate 2 refine ya ?_
 refine kU 2 ?_;refine gq ?_;refine ExF.cp (p:=¬v=1) (λV=>zcj m (v-1) hm (by omega) (by omega)) ?_;refine kS ?_;refine gf ?_ ?_<;>intro U
 ·apply ye;refine yj ?_;refine kQ ?_;refine kM (yd (ts:=[(4,tmsA [])]) (hs:=[])) ?_;refine gq ?_;all_goals(first|rfl|(simp[wdL, *];done)|(simp[wdL, *];rfl)|(simp[wdL];omega))
 refine gq ?_;refine yR (za1 m v hm h1 Z) ?_;refine gc (zdq (yw m v) 2 1) ?_;all_goals(simp[wdL, *])
def zjd(m:Mn)(v:Int)(hm:ckM m=0)(h1:1<=v)(Z:v<=8):Fn prog 181 [mnA m,iv v] (tmsA (wdL m v 5)):=by
 refine kR func181 ntmps181 (λg w d=>?_);refine gq ?_;refine yR (zeH m v hm h1 Z) ?_;refine yD tmE [durT m v] ?_;refine yj ?_;refine kQ ?_;refine kM (kL (k:=8) rfl) ?_;refine gq ?_;all_goals(first|rfl|(simp[wdL, *];done)|(simp[wdL, *];rfl)|(simp[wdL];omega))
def zje(m:Mn)(v:Int)(hm:ckM m=0)(h1:1<=v)(Z:v<=8):Fn prog 183 [mnA m,iv v] (tmsA (wdL m v 6)):=by
 refine kR func183 ntmps183 (λg w d=>?_);refine gq ?_;refine yR (zeH m v hm h1 Z) ?_;refine gc (zdq (durT m v) 3 2) ?_;all_goals(simp[wdL, *])
def zjf(m:Mn)(v:Int)(hm:ckM m=0)(h1:1<=v)(T:v<=8):Fn prog 184 [mnA m,iv v] (tmsA (wdL m v 7)):=by
 refine kR func184 ntmps184 (λg w d=>?_);apply ye;refine zz ?_;refine yj ?_;apply yh;apply kP;apply ye;iterate 3 refine ya ?_
 refine kU 3 ?_;refine yo ?_;iterate 2 refine kS ?_
 refine gf ?_ ?_<;>intro V
 ·refine gq ?_;refine yD tmE [⟨3,2⟩] ?_;refine yj ?_;refine kQ ?_;refine kM (kL (k:=14) rfl) ?_;refine gq ?_;all_goals(first|rfl|exact zE Z|(simp[wdL, *];done)|(simp[wdL, *];rfl)|(simp[wdL];omega))
 apply ye;iterate 3 refine ya ?_
 refine kU 3 ?_;refine yo ?_;iterate 2 refine kS ?_
 refine gf ?_ ?_<;>intro U
 ·refine gq ?_;refine yD tmE [⟨1,2⟩] ?_;refine yj ?_;refine kQ ?_;refine kM (kL (k:=24) rfl) ?_;refine gq ?_;all_goals(first|rfl|exact zE Z|(simp[wdL, *];done)|(simp[wdL, *];rfl)|(simp[wdL];omega))
 have Z:wdL m v 7=[]:=by
  have e:wdL m v 7=(if m.Pro=2/\v=4 then[⟨3,2⟩]else if m.Pro=2/\v=5 then[⟨1,2⟩]else[]):=rfl;rw[e,j7 (by omega),j7 (by omega)]
 apply yk;apply ye;refine yj ?_;refine kQ ?_;refine kM (yd (ts:=[(4,tmsA [])]) (hs:=[])) ?_;refine gq ?_;all_goals(first|rfl|exact zE Z|(simp[wdL, *];done)|(simp[wdL, *];rfl)|(simp[wdL];omega))
def zjg(m:Mn)(v:Int)(hm:ckM m=0)(h1:1<=v)(Z:v<=8):Fn prog 185 [mnA m,iv v] (tmsA (wdL m v 8)):=by
 refine kR func185 ntmps185 (λg w d=>?_);refine gq ?_;refine yR (za1 m v hm h1 Z) ?_;refine yD tmE [yw m v] ?_;refine yj ?_;refine kQ ?_;refine kM (kL (k:=8) rfl) ?_;refine gq ?_;all_goals(first|rfl|(simp[wdL, *];done)|(simp[wdL, *];rfl)|(simp[wdL];omega))
def zlT:Fn prog 125 [] (.agg zwB):=by
 refine kR func125 ntmps125 (λg w d=>?_);refine gq ?_;refine kY (.one (.cellA rfl rfl rfl rfl zw4 (kO ?_)));all_goals rfl
end
section
attribute [local irreducible] Pur yy yz Ex X Fn Imp LeV LeB FnO It yH
structure Sp where
 Value:Int
 Rest:Bool
 Color:Bool
 Dot:Bool
 Way:Int
 deriving DecidableEq
def spE:Sp->List AV:=λs=>[iv s.Value,.bool s.Rest,.bool s.Color,.bool s.Dot,iv s.Way]
abbrev spA(s:Sp):AV:=.agg (spE s)
abbrev spsA(l:List Sp):AV:=.sl spE l
def spOf(v w:Int):Sp:=⟨v,decide (w=8),decide (w=5)||decide (w=6)||decide (w=7),decide (w=2)||decide (w=6),w⟩
def zub(m:Mn){v:Int}(h1:1<=v)(n:Nat):(wdL m v n).length<=81:=by
 have Z:=zfh m v (5-v).toNat v (yw m v) false;have V:3^(5-v).toNat<=3^4:=vA (by decide) (by omega);have U:3^4=81:=rfl;unfold wdL
 repeat' split
 all_goals first|(simp;done)|omega
def alI(m:Mn)(t:Tm)(v:Int):Nat->List Sp
 |0=>[]
 |n+1=>if n≠0/\t∈wdL m v n then alI m t v n++[spOf v (n:Int)]else alI m t v n
def alO(m:Mn)(t:Tm):Nat->List Sp
 |0=>[]
 |k+1=>alO m t k++alI m t (1+(k:Int)) 9
def zih(m:Mn)(t:Tm)(v:Int):∀n,(alI m t v n).length<=n
 |0=>jE _
 |n+1=>by
  have:=zih m t v n;unfold alI;split
  ·simp;omega
  ·omega
theorem zii(m:Mn)(t:Tm):∀k,(alO m t k).length<=9*k
 |0=>jE _
 |k+1=>by
  have h1:=zii m t k;have Z:=zih m t (1+(k:Int)) 9;unfold alO;simp;omega
theorem zo7{m:Mn}{t:Tm}{v:Int}{n:Nat}(hn:n≠0)(h:t∈wdL m v n)(X:List Sp):X++alI m t v n++[spOf v (n:Int)]=X++alI m t v (n+1):=by
 conv=>rhs;unfold alI
 rw[j6 ⟨hn,h⟩,uB]
theorem znS{m:Mn}{t:Tm}{v:Int}{n:Nat}(h:n=0\/¬t∈wdL m v n)(X:List Sp):X++alI m t v n=X++alI m t v (n+1):=by
 conv=>rhs;unfold alI
 rw[j7 (λe=>by rcases h with h|h;exact e.1 h;exact h e.2)]
def allE(m:Mn)(t:Tm):List Sp:=if bthE m t=0 then alO m t 8 else[]
def fnT:fnTy prog 195:=⟨_,_,_,Tryz.underlying195⟩
def zuc(j:Nat)(Z:j<9):(j=0/\(zwB.drop ((j:Int).toNat*4)).take 4=[.bool false,.bool false,.bool false,.nilf])∨
 (j≠0/\∃f,(zwB.drop ((j:Int).toNat*4)).take 4=[.bool (decide ((j:Int)=8)),.bool (decide ((j:Int)=5)||decide ((j:Int)=6)||decide ((j:Int)=7)),.bool (decide ((j:Int)=2)||decide ((j:Int)=6)),.fn f []]∧
  ∀(m:Mn)(v:Int),ckM m=0->1<=v->v<=8->Fn prog f [mnA m,iv v] (tmsA (wdL m v j))):=by
 rcases j with _|_|_|_|_|_|_|_|_|j
 ·exact .inl ⟨rfl,rfl⟩
 ·exact .inr ⟨by decide,_,rfl,λm v a b c=>zja m v a b c⟩
 ·exact .inr ⟨by decide,_,rfl,λm v a b c=>zjb m v a b c⟩
 ·exact .inr ⟨by decide,_,rfl,λm v a b c=>zlS m v a b c⟩
 ·exact .inr ⟨by decide,_,rfl,λm v a b c=>zjc m v a b c⟩
 ·exact .inr ⟨by decide,_,rfl,λm v a b c=>zjd m v a b c⟩
 ·exact .inr ⟨by decide,_,rfl,λm v a b c=>zje m v a b c⟩
 ·exact .inr ⟨by decide,_,rfl,λm v a b c=>zjf m v a b c⟩
 ·exact .inr ⟨by decide,_,rfl,λm v a b c=>zjg m v a b c⟩
 ·omega
attribute [local irreducible] yw durT mulV wdL alI alO bthE tfx
def zmU(m:Mn)(t:Tm):Fn prog 80 [mnA m,tmA t] (.tup [spsA (allE m t),iv (bthE m t)]):=by
 refine kR func80 ntmps80 (λg w d=>?_);refine gc (zlQ m t) ?_;refine gd ?_ ?_<;>intro V
 ·have J:[]=allE m t:=by unfold allE;rw[j7 V]
  apply ye;refine yC ?_;refine kQ ?_;refine kM (yd (ts:=[(4,spsA []),(5,iv (bthE m t))]) (hs:=[])) ?_;refine yl ?_ ?_;all_goals(first|exact j9 spsA J|rfl|exact j9 (AV.int .i64) V.symm)
 apply yk;apply ye;refine yj ?_;iterate 2 apply yh
 refine kT (yG spE 116 5 7 7 rfl rfl) ?_;apply yf;refine yj ?_;apply kP;have x4:[]=alO m t 0:=by unfold alO;rfl
 have H:=zrT V;refine zm (λk=>[(2,.ptr 2 0 0 0),(3,.ptr 3 0 0 0),(7,.own 7),(8,iv (1+(k:Int)))]) (λk=>[(2,.box (mnE m) 27),(3,.box (tmE t) 61),(7,.row spE (alO m t k) 116 5)]) 8 (λk hk=>?_);refine gd ?_ ?_<;>intro x3
 ·refine gq ?_;refine yR zlT ?_;refine yj ?_;apply kP;have x2:alO m t k=alO m t k++alI m t (1+(k:Int)) 0:=by unfold alI;simp
  have x1:=zii m t k;refine zm (λj=>[(2,.ptr 2 0 0 0),(3,.ptr 3 0 0 0),(7,.own 7),(8,iv (1+(k:Int))),(21,.agg zwB),(22,iv (j:Int))]) (λj=>[(2,.box (mnE m) 27),(3,.box (tmE t) 61),(7,.row spE (alO m t k++alI m t (1+(k:Int)) j) 116 5)]) 9 (λj hk=>?_);refine gd ?_ ?_<;>intro x0
  ·have w9:=zih m t (1+(k:Int)) j;apply yk;apply yh;apply kP;apply yh;rcases zuc j (by omega)with⟨U,Z⟩|⟨U,fw,Z,hF⟩
   ·apply yf;refine ya ?_;refine ya (hs:=zI ArK.h TyK.h rfl rfl (by omega) (by omega) Z) ?_;refine gq ?_;refine yW [26,27,28,29,30,31,32,33,34,35,36,37] [0,1,3,7,15,31,15,15,255,15,1023,2047] mo ?_;(iterate 2 refine yb ?_);refine ChM.step rfl rfl rfl (kK (zoc fnT rfl rfl)) rfl ?_;refine yb ?_;(iterate 6 refine ChM.gn (.any) ?_);refine ChM.gn (.bool false) ?_;refine yb ?_;refine yI ?_;refine gd ?_ ?_<;>intro G
    ·simp at G
    have T:=znS (m:=m) (t:=t) (v:=1+(k:Int)) (n:=j) (.inl U) (alO m t k);refine gq ?_;refine yu (j+1) (hI:=yg)
   ·apply yf;refine ya ?_;refine ya (hs:=zI ArK.h TyK.h rfl rfl (by omega) (by omega) Z) ?_;refine gq ?_;refine yW [26,27,28,29,30,31,32,33,34,35,36,37] [0,1,3,7,15,31,15,15,255,15,1023,2047] mo ?_;(iterate 2 refine yb ?_);refine ChM.step rfl rfl rfl (kK (zsN fnT rfl rfl)) rfl ?_;refine yb ?_;(iterate 4 refine kZ ?_);refine bK (hF m (1+(k:Int)) H.1 (by omega) (by omega)) ?_;refine kZ ?_;refine bK (zq (wdL m (1+(k:Int)) j) t (by have:=zub m (show 1<=1+(k:Int)by omega) j;omega)) ?_;refine yb ?_;refine yI ?_;refine gd ?_ ?_<;>intro N
    ·have T:=zo7 (v:=1+(k:Int)) U N.2 (alO m t k);refine gq ?_;refine yD spE [spOf (1+(k:Int)) (j:Int)] ?_;refine gq ?_;refine yu (j+1) (hI:=yg)
    ·have T:=znS (m:=m) (t:=t) (v:=1+(k:Int)) (n:=j) (.inr (by rcases N with h|h;exact absurd h (by decide);exact h)) (alO m t k);refine gq ?_;refine yu (j+1) (hI:=yg)
  ·have E:j=9:=by omega
   subst E;have T:alO m t k++alI m t (1+(k:Int)) 9=alO m t (k+1):=by conv=>rhs;unfold alO
   refine gq ?_;refine yu (k+1) (hI:=yg)
 ·have xT:k=8:=by omega
  subst xT;have J:alO m t 8=allE m t:=by unfold allE;rw[j6 V]
  apply bA;apply ye;refine yC ?_;refine kQ ?_;refine kM (kL (k:=7) rfl) ?_;refine yl ?_ ?_;all_goals(first|exact j9 spsA J|rfl|exact j9 (AV.int .i64) V.symm)
end
end Go.Rse
