/-
  The logic.
-/
import Derived.Test.YtamceaedmdmmlaaGreatDoorZTk
set_option linter.all false
namespace Go.Rse
open Go Go.Proofs.Tryz
def two3(n:Int):Prop:=n=2\/n=3
instance(n:Int):Decidable (two3 n):=inferInstanceAs(Decidable (_\/_))
def Mn.p(m:Mn)(v:Int):Int:=if v=1 then m.Max else if v=2 then m.Mod else if v=3 then m.Tem else if v=4 then m.Pro else 2
def Mn.Ok(m:Mn):Prop:=two3 m.Max/\two3 m.Mod/\two3 m.Tem/\two3 m.Pro
instance(m:Mn):Decidable m.Ok:=inferInstanceAs(Decidable (_/\_/\_/\_))
def ckM(m:Mn):Int:=if m.Ok then 0 else 12
def ckMV(m:Mn)(v:Int):Int:=if m.Ok then(if 1<=v/\v<=8 then 0 else 2)else 12
def zoT(m:Mn)(v:Int)(h1:1<=v)(Z:v<=4):(mnE m)[(v-1).toNat]? =some (iv (m.p v)):=by
 have:v=1\/v=2\/v=3\/v=4:=by omega
 rcases this with rfl|rfl|rfl|rfl<;>rfl
def Mn.ok_iff(m:Mn):m.Ok↔∀v:Int,1<=v->v<=4->two3 (m.p v):=by
 constructor
 ·rintro⟨a,b,c,d⟩v h1 Z
  have:v=1\/v=2\/v=3\/v=4:=by omega
  rcases this with rfl|rfl|rfl|rfl<;>assumption
 ·intro h;exact⟨h 1 (by omega) (by omega),h 2 (by omega) (by omega),h 3 (by omega) (by omega),h 4 (by omega) (by omega)⟩
end Go.Rse
namespace Go.Rse
open Go Go.Proofs Go.Proofs.Tryz
section
attribute [local irreducible] Pur yy yz Ex X Fn Imp LeV LeB
def zgH(m:Mn):Fn prog 109 [mnA m] (mnA m):=by
 refine kR func109 ntmps109 (λg w d=>?_);refine gq ?_;refine kY (.one (.cellA rfl rfl rfl rfl zw3 (kO ?_)));all_goals rfl
def zkp(m:Mn)(v:Int)(h1:1<=v)(U:v<=8):Fn prog 162 [mnA m,iv v] (iv (m.p v)):=by
 refine kR func162 ntmps162 (λg w d=>?_);refine gd ?_ ?_<;>intro Z
 ·refine gq ?_;all_goals(first|rfl|(congr 1;unfold Mn.p;rw[j7 (by omega),j7 (by omega),j7 (by omega),j7 (by omega)]))
 have V:=zoT m v h1 Z;refine gq ?_;refine yR (zgH m) ?_;iterate 2 refine ya ?_
 refine zo (zl3 zs3 ty3 rfl rfl (by omega) (by omega) V) rfl ?_;refine gq ?_;all_goals(first|rfl|(congr 1;unfold Mn.p;rw[j7 (by omega),j7 (by omega),j7 (by omega),j7 (by omega)]))
def zaw(m:Mn):Fn prog 64 [mnA m] (iv (ckM m)):=by
 refine kR func64 ntmps64 (λg w d=>?_);refine gq ?_;refine yR (zgH m) ?_;refine yj ?_;apply kP;refine zW (λk=>[(6,mnA m),(7,iv k)]) (λk=>[]) (λk=>k<=4/\∀v:Int,1<=v->v<=k->two3 (m.p v)) 4 (λk hk=>?_) (hJ:=by exact⟨by omega,λv h1 U=>by omega⟩) (h0:=yd);obtain⟨N,Z⟩:=hk;refine gd ?_ ?_<;>intro J
 ·have T:=zoT m ((k:Int)+1) (by omega) (by omega);rw[show((k:Int)+1-1)=(k:Int)by omega]at T;apply yk;apply yh;apply kP;apply ye;refine zo (zl3 zs3 ty3 rfl rfl (by omega) (by omega) T) rfl ?_;refine ya ?_;apply yE;iterate 2 refine ya ?_
  refine kU 2 ?_;refine yo ?_;iterate 2 refine kS ?_
  refine gf ?_ ?_<;>intro H
  ·refine gq ?_;all_goals(congr 1;unfold ckM;rw[j7 (λh=>by have:=(m.ok_iff.1 h) (k+1) (by omega) (by omega);unfold two3 at this;omega)])
  have V:two3 (m.p ((k:Int)+1)):=by unfold two3;omega
  refine gq ?_
  refine yu (k+1) (hJ:=by exact⟨by omega,λv h1 U=>by
   by_cases e:v=k+1
   ·rw[e];exact V
   ·exact Z v h1 (by omega)⟩)
 ·refine gq ?_;all_goals(congr 1;unfold ckM;rw[j6 (m.ok_iff.2 λv h1 U=>Z v h1 (by omega))])
def zcN(m:Mn)(v:Int):Fn prog 161 [mnA m,iv v] (iv (ckMV m v)):=by
 refine kR func161 ntmps161 (λg w d=>?_);refine gq ?_;refine yR (zaw m) ?_;refine yj ?_;apply yh;apply ye;iterate 2 refine ya ?_
 refine kU 2 ?_;refine yo ?_;iterate 6 refine kS ?_
 refine gf ?_ ?_<;>intro Z
 ·refine gq ?_;all_goals(by_cases hm:m.Ok<;>simp_all[ckM,ckMV]<;>omega)
 refine gq ?_;all_goals(by_cases hm:m.Ok<;>simp_all[ckM,ckMV]<;>omega)
def zdW(m:Mn)(v:Int):Fn prog 112 [mnA m,iv v] (.tup [iv (if ckMV m v=0 then m.p v else 0),iv (ckMV m v)]):=by
 refine kR func112 ntmps112 (λg w d=>?_);refine gc (zcN m v) ?_;refine gd ?_ ?_<;>intro Z
 ·refine gq ?_;refine yl ?_ ?_;all_goals exact zR
 refine gc (zkp m v (by unfold ckMV at Z;split at Z<;>omega) (by unfold ckMV at Z;split at Z<;>omega)) ?_;refine yl ?_ ?_;all_goals exact zR
end
section
attribute [local irreducible] Pur yy yz Ex X Fn Imp LeV LeB FnO It yH
def ziT(l:List Int):List (List AV):=(List.range l.length).map λ(j:Nat)=>[iv ((l.length:Int)-1-(j:Int)),iv (l.getD (l.length-1-j) 0)]
def zkq{l:List Int}{k:Nat}(h:k<l.length):(ziT l)[k]? =some [iv ((l.length:Int)-1-k),iv (l.getD (l.length-1-k) 0)]:=by
 simp[ziT,h]
def zhn{l:List Int}{j:Nat}{zs:List AV}(h:(ziT l)[j]? =some zs):j<l.length/\zs=[iv ((l.length:Int)-1-j),iv (l.getD (l.length-1-j) 0)]:=by
 have Z:j<l.length:=by have:=(j5.1 h).1;simpa[ziT]using this
 rw[zkq Z]at h;exact⟨Z,by simpa using h.symm⟩
def zp4(l:List Int):(ziT l).length=l.length:=by simp[ziT]
def zcu(l:List Int)(hl:l.length<=4000000000):It prog 253 [.ept (λ_:Unit=>[.sl intE l]) () 0] (ziT l):=by
 refine It.intro (ts:=λlY=>[(0,.yv lY),(1,.ept (λ_:Unit=>[.sl intE l]) () 0)]) (n:=19) (by kernel_rfl) func253 rfl ntmps253 rfl (λ_=>rfl) (by simp) (λg w d ds Y lY U=>?_);apply ye;refine ya ?_;refine yC ?_;apply kP;refine zm (λk=>[(0,.yv lY),(1,.ept (λ_:Unit=>[.sl intE l]) () 0),(3,iv ((l.length:Int)-1-k))]) (λk=>[(1000000,.yld k true)]) l.length (λk hk=>?_) (h0:=yd);refine gd ?_ ?_<;>intro T
 ·have Z:k<l.length:=by omega
  have N:l[((l.length:Int)-1-k).toNat]? =some (l.getD (l.length-1-k) 0):=by
   rw[show((l.length:Int)-1-k).toNat=l.length-1-k by omega,jD,lgg (by omega)];rfl
  apply yk;apply yh;apply kP;apply ye;iterate 6 refine ya ?_
  refine Ex.yield U rfl rfl rfl (bC _) rfl rfl (zkq Z) rfl (λb=>?_);refine gd ?_ ?_<;>intro V
  ·refine kQ ?_;refine⟨.inr rfl,_,b,rfl,λJ=>by simp_all⟩
  subst V;apply yk;apply yf;refine yC ?_;refine⟨k+1,yd,?_,?_⟩
  ·omega
  ·omega
 ·apply bA;refine⟨.inl rfl,k,true,rfl,λ_=>by rw[zp4];omega⟩
end
section
attribute [local irreducible] Pur yy yz Ex X Fn Imp LeV LeB FnO It yH
def zdb(l:List Int):Fn prog 222 [yc l] (.fn 253 [.ept (λ_:Unit=>[.sl intE l]) () 0]):=by
 refine kR func222 ntmps222 (λg w d=>?_);apply ye;refine ze0 ?_;refine ya ?_;apply yE;refine yQ ?_;refine kQ ?_;refine kM (yY (k:=1) rfl rfl) ?_;refine gq ?_;all_goals exact zR
def zbF(l:List Int)(hl:l.length<=4000000000):FnO prog 164 [yc l] [] [] (.own 5) [(5,.row intE l 3 1)]:=by
 refine bP (ts:=[(0,yc l)]) (rv:=[.tmp 2]) (n:=8) (cs:=[]) (by kernel_rfl) func164 rfl ntmps164 rfl rfl (by simp) rfl rfl rfl rfl (λg w d vs=>?_);apply ye;refine yj ?_;apply yh;apply ye;refine ya ?_;refine Ex.eqNil rfl sl22 rfl (λb U=>?_);refine gd ?_ ?_<;>intro Z
 ·have V:=U Z;subst V;subst Z;apply ye;refine yj ?_;refine kQ ?_;refine zpx.imp (yG intE 3 1 2 5 rfl rfl) ?_;refine zpx.mk (ts:=[(2,.own 5)]) (.inr rfl) (yd) (.one (.tmp rfl (kO rfl)))
 refine gq ?_;refine yD intE [] ?_;refine ya ?_;refine kV ?_;refine yj ?_;refine kQ ?_;refine zpx.mk (ts:=[(2,.own 5)]) (.inr rfl) (yd) (.one (.tmp rfl (kO rfl)))
def perfL(m:Mn):List Int:=([4,3,2,1]:List Int).filter λv=>decide (m.p v=3)
def zfF(m:Mn):List (List AV):=(perfL m).map λv=>[iv v]
def pcnt(m:Mn)(j:Nat):Nat:=((([4,3,2,1]:List Int).take j).filter λv=>decide (m.p v=3)).length
def mnL(m:Mn):List Int:=[m.Max,m.Mod,m.Tem,m.Pro]
def ztS(m:Mn)(j:Nat)(h:j<4):(mnL m).getD (4-1-j) 0=m.p (4-j):=by
 have:j=0\/j=1\/j=2\/j=3:=by omega
 rcases this with rfl|rfl|rfl|rfl<;>rfl
def zri(m:Mn)(j:Nat)(h:j<4)(Z:m.p (4-j)=3):(zfF m)[pcnt m j]? =some [iv (4-j)]/\pcnt m (j+1)=pcnt m j+1:=by
 have:j=0\/j=1\/j=2\/j=3:=by omega
 rcases this with rfl|rfl|rfl|rfl<;>simp at Z<;>simp[zfF,perfL,pcnt,uM,Z]
 ·split<;>simp
 ·split<;>split<;>simp
 ·split<;>split<;>split<;>simp
def ztT(m:Mn)(j:Nat)(h:j<4)(Z:¬m.p (4-j)=3):pcnt m (j+1)=pcnt m j:=by
 have:j=0\/j=1\/j=2\/j=3:=by omega
 rcases this with rfl|rfl|rfl|rfl<;>simp at Z<;>simp[pcnt,uM,Z]
def zrj(m:Mn):pcnt m 4=(zfF m).length:=by simp[zfF,perfL,pcnt]
def zdD(m:Mn):It prog 221 [.ept (λ_:Unit=>mnE m) () 0] (zfF m):=by
 refine It.intro (ts:=λlY=>[(0,.yv lY),(1,.ept (λ_:Unit=>mnE m) () 0)]) (n:=29) (by kernel_rfl) func221 rfl ntmps221 rfl (λ_=>rfl) (by simp) (λg w d ds Y lY hY=>?_);apply ye;refine ze0 ?_;apply yE;refine yD intE [] ?_;refine gq ?_;refine yD intE [_,_,_,_] ?_;refine kV ?_;refine bF (kL (k:=5) rfl) ?_;refine zby [(5,16)] (zbF (mnL m) (by simp[mnL])) rfl rfl rfl (bC _) rfl rfl trivial rfl rfl rfl rfl ?_;refine bF (kL (k:=16) rfl) ?_;refine Ex.call rfl rfl rfl (zdb (mnL m)) rfl ?_;refine gq ?_;refine X.range (sl:=[2]) (λj=>([.ptr 2 0 0 0],[(2,.box [.yv lY] 183),(1000000,.yld (pcnt m j) true)])) (λj=>True) 900001 900002 rfl rfl (by decide) (λj zs T=>by obtain⟨_,rfl⟩:=zhn T;rfl) (zcu (mnL m) (by simp[mnL])) trivial rfl rfl (by decide) (jE _) (by simp) (λj zs T=>by obtain⟨_,rfl⟩:=zhn T;rfl) (λ_=>rfl) rfl rfl (λl o us=>yd) (trivial) (λj zs T hJ l ready busy rb vs g w E xT=>?_) (λhJ=>?_)
 ·obtain⟨Z,rfl⟩:=zhn T;have Z:j<4:=Z;have hv:(mnL m).getD ((mnL m).length-1-j) 0=m.p (4-j):=ztS m j Z;have x4:(mnL m).length=4:=rfl;apply ye;refine yj ?_;apply yf;refine yj ?_;refine⟨rfl,rfl,?_⟩;apply kP;apply ye;iterate 3 refine ya ?_
  refine zst (t:=22) true rfl (λV=>?_) (λV=>?_)
  ·refine z8 ?_;(iterate 2 refine z8 ?_);have U:m.p (4-j)=3:=by rw[←hv];simpa using V
   obtain⟨J,H⟩:=zri m j Z U;refine zb6 hY rfl rfl rfl (λ_=>⟨_,_,rfl,rfl,rfl,.cons (kO (by congr 1;omega)) .nil,rfl,rfl,J,λb=>?_⟩) (λh=>absurd (h.symm.trans V) (by decide));refine z8 ?_;refine gd ?_ ?_<;>intro N
   ·subst N;refine kQ ?_;refine⟨[.ptr 2 0 0 0],[(2,.box [.yv lY] 183),(1000000,.yld (pcnt m j) false)],yd,?_⟩;refine⟨.inr rfl,_,false,rfl,λE=>by simp at E⟩
   subst N;apply yk;refine⟨[.ptr 2 0 0 0],[(2,.box [.yv lY] 183),(1000000,.yld (pcnt m (j+1)) true)],yd,rfl,trivial⟩
  ·refine zbQ ?_;(iterate 4 refine zbQ ?_);refine gd ?_ ?_<;>intro G
   ·exact absurd G (by decide)
   have U:¬m.p (4-j)=3:=by rw[←hv];simpa using V
   have H:=ztT m j Z U;apply yk;refine⟨[.ptr 2 0 0 0],[(2,.box [.yv lY] 183),(1000000,.yld (pcnt m (j+1)) true)],yd,rfl,trivial⟩
 refine⟨.inl rfl,_,true,rfl,λ_=>zrj m⟩
def zew(m:Mn):Fn prog 158 [mnA m] (.fn 221 [.ept (λ_:Unit=>mnE m) () 0]):=by
 refine kR func158 ntmps158 (λg w d=>?_);apply ye;refine zz ?_;refine ya ?_;apply yE;refine yQ ?_;refine kQ ?_;refine kM (yY (k:=1) rfl rfl) ?_;refine gq ?_;all_goals exact zR
end
section
attribute [local irreducible] Pur yy yz Ex X Fn Imp LeV LeB FnO It yH
def Mn.ab(m:Mn)(v:Int):Int:=((perfL m).find? λk=>decide (k<v)).getD 0
def zcC{m:Mn}{j:Nat}{zs:List AV}(h:(zfF m)[j]? =some zs):∃k,(perfL m)[j]? =some k/\zs=[iv k]:=by
 rw[zfF,jN]at h;cases hk:(perfL m)[j]? with
 |none=>simp[hk]at h
 |some k=>simp[hk]at h;exact⟨k,rfl,h.symm⟩
def zx0{m:Mn}{v:Int}{j:Nat}{k:Int}(h:(perfL m)[j]? =some k)(hJ:∀i,i<j->∀k,(perfL m)[i]? =some k->¬k<v)(hk:k<v):m.ab v=k:=by
 unfold Mn.ab;generalize perfL m=l at h hJ
 induction l generalizing j with
 |nil=>simp at h
 |cons x r ih=>
  cases j with
  |zero=>simp at h;subst h;simp[hk]
  |succ j=>
   have hx:=hJ 0 (by omega) x (by simp);simp only[xA,w4,jH hx];exact ih (by simpa using h) (λi hi k hk=>hJ (i+1) (by omega) k (by simpa using hk))
def zoU{m:Mn}{v:Int}(hJ:∀i,i<(perfL m).length->∀k,(perfL m)[i]? =some k->¬k<v):m.ab v=0:=by
 unfold Mn.ab;rw[List.find?_eq_none.2 (λx hx=>?_)]
 ·rfl
 ·obtain⟨i,hi⟩:=jQ.1 hx;have:=hJ i (j5.1 hi).1 x hi;simpa using this
def zgI(m:Mn)(v:Int):Fn prog 111 [mnA m,iv v] (.tup [iv (if ckMV m v=0 then m.ab v else 0),iv (ckMV m v)]):=by
 refine kR func111 ntmps111 (λg w d=>?_);refine gq ?_;refine ze0 ?_;refine gc (zcN m v) ?_;refine gd ?_ ?_<;>intro V
 ·refine gq ?_;refine kY (.many (by decide) (.cons (.cellS rfl rfl rfl ty3 (kO ?_)) (.cons (.cellS rfl rfl rfl ty31 (kO ?_)) .nil)));all_goals(first|(simp_all;done))
 refine gc (zew m) ?_;refine X.range (sl:=[3,4,5]) (λj=>([.ptr 3 0 0 0,.ptr 4 0 0 0,.ptr 5 0 0 0],[(3,.box [iv v] 3),(4,.box [iv 0] 3),(5,.box [iv 0] 31)])) (λj=>∀i,i<j->∀k,(perfL m)[i]? =some k->¬k<v) 900001 900002 rfl rfl (by decide) (λj zs U=>by obtain⟨k,_,rfl⟩:=zcC U;rfl) (zdD m) trivial rfl rfl (by decide) (wK _) (by simp) (λj zs U=>by obtain⟨k,_,rfl⟩:=zcC U;rfl) (λ_=>rfl) rfl rfl (λl o us=>yd) (λi hi=>absurd hi (u0 i)) (λj zs U hJ l ready busy rb vs g w J N=>?_) (λhJ=>?_)
 ·obtain⟨k,hk,rfl⟩:=zcC U;apply yf;refine yj ?_;refine⟨rfl,rfl,?_⟩;refine gd ?_ ?_<;>intro T
  ·apply ye;refine ya ?_;(iterate 2 refine kV ?_);apply kW;refine kQ ?_;refine⟨[.ptr 3 0 0 0,.ptr 4 0 0 0,.ptr 5 0 0 0],[(3,.box [iv v] 3),(4,.box [iv k] 3),(5,.box [iv 0] 31)],yd,?_⟩;refine kY (.many (by decide) (.cons (.cellS rfl rfl rfl ty3 (kO ?_)) (.cons (.cellS rfl rfl rfl ty31 (kO ?_)) .nil)));all_goals(first|(simp only[V,if_true];rw[zx0 hk hJ T];done)|(simp_all;done))
  apply yk;refine⟨[.ptr 3 0 0 0,.ptr 4 0 0 0,.ptr 5 0 0 0],[(3,.box [iv v] 3),(4,.box [iv 0] 3),(5,.box [iv 0] 31)],yd,rfl,λi hi k2 Z=>by
 rcases wG.1 hi with h|h
 ·exact hJ i h k2 Z
 ·subst h;rw[hk]at Z;injection Z with Z;subst Z;omega⟩
 refine gq ?_;refine kY (.many (by decide) (.cons (.cellS rfl rfl rfl ty3 (kO ?_)) (.cons (.cellS rfl rfl rfl ty31 (kO ?_)) .nil)));all_goals(first|(simp only[V,if_true];rw[zoU (by simpa[zfF]using hJ)];done)|(simp_all;done))
end
end Go.Rse
namespace Go.Rse
open Go Go.RowKit Go.Proofs.Tryz
section
variable{P:Program}{C:Ctx}{st:St}{ty:TypeId}
def zhF{α:Type}{enc:α->List AV}{u:α}{t n E s:Nat}{ag:Bool}{x y:Operand}{j:Nat}{kk:IntKind}{q:Int}(hx:ev st x=some (.ept enc u j))(Z:ev st y=some (.int kk q))(ht:zcr P t n E=true)(hE:tyOk P E ag s=true)(h0:0<=q)(h1:q<n):
 Pur P C (.indexAddr t x y) ty st (.ept enc u (j+q.toNat*s)):=λg a w dst pos af gd hr=>by
 have hv:=yA hr hx;have ey:=y5 (yA hr Z);generalize V:a.eval x=v at hv;cases hv with
 |ept _ _ _ b o vs hI hv=>
  refine⟨.pointer (some ⟨b,o+j+q.toNat*s,none⟩),?_,?_⟩
  ·simp[execOp,Instr.indexAt,asIntOf,Instr.sureAddr,V,ey,run_underlying (zcg ht),h0,h1,yZ hE,zP]
  ·rw[vD];exact .ept enc u (j+q.toNat*s) b o vs hI hv
end
end Go.Rse
namespace Go.Rse
open Go Go.Proofs Go.Proofs.Tryz
section
structure Sf where
 v:Bool
 p:Bool
 a:Bool
 c:Bool
 s:Bool
 o:Bool
 l:Bool
 m:Bool
 k:Bool
 n:Bool
 d:Bool
 f:Bool
 deriving DecidableEq
def sfE:Sf->List AV:=λx=>[.bool x.v,.bool x.p,.bool x.a,.bool x.c,.bool x.s,.bool x.o,.bool x.l,.bool x.m,.bool x.k,.bool x.n,.bool x.d,.bool x.f]
def ufS(k:Int):Sf:=
 if k=1 then⟨true,true,true,true,false,false,false,false,false,false,false,false⟩
 else if k=2 then⟨true,false,false,false,false,false,false,false,false,false,false,false⟩
 else if k=4 then⟨false,true,true,true,true,true,true,false,false,false,false,false⟩
 else if k=5 then⟨false,false,false,false,false,false,false,true,true,false,false,false⟩
 else if k=6 then⟨false,false,false,false,false,false,false,false,false,true,true,false⟩
 else if k=7 then⟨false,false,false,false,false,false,false,false,false,false,false,true⟩
 else if k=8\/k=10 then⟨false,false,false,false,false,false,false,false,false,true,false,false⟩
 else⟨false,false,false,false,false,false,false,false,false,false,false,false⟩
def clS(k:Int):Int:=if k=1\/k=2\/k=4 then 1 else if k=3 then 2 else if k=5\/k=6\/k=9\/k=10 then 3 else if k=7\/k=8\/k=11\/k=12 then 4 else 0
def ktV(s:Sg)(f:Sf):Sg:=⟨s.Kind,if f.v=true then s.Value else 0,if f.p=true then s.Place else 0,if f.a=true then s.Acc else 0,if f.c=true then s.Color else false,if f.s=true then s.Stem else 0,if f.o=true then s.Oblique else false,if f.l=true then s.Last else false,if f.m=true then s.Mens else⟨0,0,0,0⟩,if f.k=true then s.Stroke else false,if f.n=true then s.N else 0,if f.d=true then s.D else 0,if f.f=true then s.CStep else 0,if f.f=true then s.CLine else 0⟩
def wnQ(n a b:Int):Bool:=decide (n≥a)&&decide (n<=b)
structure RgK(x:Sg)(f:Sf):Prop where
 v:f.v=true->1<=x.Value/\x.Value<=8
 p:f.p=true->-4<=x.Place/\x.Place<=12
 a:f.a=true->-1<=x.Acc/\x.Acc<=2
 s:f.s=true->0<=x.Stem/\x.Stem<=3
 d:f.d=true->(1<=x.N/\x.N<=100)/\(1<=x.D/\x.D<=100)
 c:f.f=true->(x.CStep=0\/x.CStep=3\/x.CStep=4)/\1<=x.CLine/\x.CLine<=5
 y:x.Kind=8->0<=x.N/\x.N<=2
 r:x.Kind=10->2<=x.N/\x.N<=4
structure SgK(x:Sg):Prop where
 k:1<=x.Kind/\x.Kind<=12
 f:x=ktV x (ufS x.Kind)
 m:(ufS x.Kind).m=true->ckM x.Mens=0
 g:RgK x (ufS x.Kind)
 o:¬(x.Oblique=true/\x.Last=true)
end
section
structure Sc where
 F:Int
 T:Int
 M:Mn
def scE:Sc->List AV:=λs=>[iv s.F,iv s.T,iv s.M.Max,iv s.M.Mod,iv s.M.Tem,iv s.M.Pro,iv 0,iv 0]
abbrev scA(s:Sc):AV:=.agg (scE s)
abbrev scsA(l:List Sc):AV:=.sl scE l
structure Ss where
 m:Mn
 kn:Bool
 s:Sc
 L:List Sc
def zdn(k:Nat)(x:Sg)(a:Ss):Ss:=
 if clS x.Kind=1 then⟨a.m,a.kn,⟨if a.s.F<0 then k else a.s.F,(k:Int)+1,a.s.M⟩,a.L⟩
 else if clS x.Kind=2 then⟨a.m,a.kn,⟨a.s.F,(k:Int)+1,a.s.M⟩,a.L⟩
 else if clS x.Kind=3 then⟨if x.Kind=5 then x.Mens else a.m,a.kn||decide (x.Kind=5),⟨-1,0,if x.Kind=5 then x.Mens else a.m⟩,if 0<=a.s.F then a.L++[a.s]else a.L⟩
 else a
def scS(l:List Sg):Nat->Ss
 |0=>⟨⟨0,0,0,0⟩,false,⟨-1,0,⟨0,0,0,0⟩⟩,[]⟩
 |k+1=>match l[k]? with
  |some x=>zdn k x (scS l k)
  |none=>scS l k
def scV(l:List Sg):List Sc:=if 0<=(scS l l.length).s.F then(scS l l.length).L++[(scS l l.length).s]else(scS l l.length).L
def ScOk(l:List Sg):Prop:=∀(k:Nat)(x:Sg),l[k]? =some x->(clS x.Kind=1->(scS l k).kn=true)/\(clS x.Kind=2->0<=(scS l k).s.F)
def scX(l:List Sg):List (List AV):=(scV l).map λs=>[scA s]
section
variable{l:List Sg}{k:Nat}{x:Sg}
def zp5(h:l[k]? =some x):scS l (k+1)=zdn k x (scS l k):=by rw[scS,h]
def zrk(k:Nat)(x:Sg)(a:Ss):a.L<+:(zdn k x a).L:=by
 unfold zdn;split
 ·exact vG
 ·split
  ·exact vG
  ·split
   ·dsimp only;split
    ·exact List.prefix_append _ _
    ·exact vG
   ·exact vG
def zrl(l:List Sg)(k:Nat):∀d,(scS l k).L<+:(scS l (k+d)).L
 |0=>vG
 |d+1=>by
  refine(zrl l k d).trans ?_;rw[←vD,scS];cases l[k+d]? with
  |none=>exact vG
  |some x=>exact zrk _ _ _
def zx1(h:k<=l.length):(scS l k).L<+:scV l:=by
 have h1:=zrl l k (l.length-k);rw[show k+(l.length-k)=l.length by omega]at h1;refine h1.trans ?_;unfold scV;split
 ·exact List.prefix_append _ _
 ·exact vG
def zx2{α:Type}{p l:List α}{x:α}(h:p++[x]<+:l):l[p.length]? =some x:=by
 obtain⟨t,rfl⟩:=h;simp
def zEt(h:l[k]? =some x)(Z:clS x.Kind=3)(V:0<=(scS l k).s.F):(scX l)[(scS l k).L.length]? =some [scA (scS l k).s]:=by
 have hk:=(j5.1 h).1;have h1:=zx1 (l:=l) (k:=k+1) (by omega);rw[zp5 h,zdn,j7 (by omega),j7 (by omega),j6 Z]at h1;dsimp only at h1;rw[j6 V]at h1;unfold scX;rw[jN,zx2 h1];rfl
def zAK(Z:0<=(scS l l.length).s.F):(scX l)[(scS l l.length).L.length]? =some [scA (scS l l.length).s]:=by
 unfold scX scV;rw[j6 Z];simp
def zrm(Z:0<=(scS l l.length).s.F):(scX l).length=(scS l l.length).L.length+1:=by unfold scX scV;rw[j6 Z];simp
def zrn(Z:¬0<=(scS l l.length).s.F):(scX l).length=(scS l l.length).L.length:=by unfold scX scV;rw[j7 Z];simp
def ztU(h:l[k]? =some x)(Z:clS x.Kind=1):scS l (k+1)=⟨(scS l k).m,(scS l k).kn,⟨if(scS l k).s.F<0 then(k:Int)else(scS l k).s.F,(k:Int)+1,(scS l k).s.M⟩,(scS l k).L⟩:=by
 rw[zp5 h,zdn,j6 Z]
def zx3(h:l[k]? =some x)(Z:clS x.Kind=2):scS l (k+1)=⟨(scS l k).m,(scS l k).kn,⟨(scS l k).s.F,(k:Int)+1,(scS l k).s.M⟩,(scS l k).L⟩:=by
 rw[zp5 h,zdn,j7 (by omega),j6 Z]
def zp6(h:l[k]? =some x)(Z:clS x.Kind=3){m':Mn}{kn':Bool}(V:(x.Kind=5/\m'=x.Mens/\kn'=true)\/(¬x.Kind=5/\m'=(scS l k).m/\kn'=(scS l k).kn)){L':List Sc}(U:(0<=(scS l k).s.F/\L'=(scS l k).L++[(scS l k).s])\/(¬0<=(scS l k).s.F/\L'=(scS l k).L)):scS l (k+1)=⟨m',kn',⟨-1,0,m'⟩,L'⟩:=by
 rw[zp5 h,zdn,j7 (by omega),j7 (by omega),j6 Z];rcases V with⟨a,rfl,rfl⟩|⟨a,rfl,rfl⟩<;>rcases U with⟨b,rfl⟩|⟨b,rfl⟩<;>simp[a,b]
def zAL(h:l[k]? =some x)(h1:¬clS x.Kind=1)(Z:¬clS x.Kind=2)(V:¬clS x.Kind=3):scS l (k+1)=scS l k:=by
 rw[zp5 h,zdn,j7 h1,j7 Z,j7 V]
end
structure ScR(n:Nat)(s:Sc):Prop where
 f:0<=s.F
 t:s.F<s.T
 n:s.T<=n
def zoV(l:List Sg):∀k,k<=l.length->(∀s∈(scS l k).L,ScR k s)/\(0<=(scS l k).s.F->ScR k (scS l k).s)/\(scS l k).s.F<=k/\-1<=(scS l k).s.F/\(scS l k).L.length<=k
 |0,_=>⟨λs h=>by simp[scS]at h,λh=>by simp[scS]at h,by simp[scS],by simp[scS],by simp[scS]⟩
 |k+1,h=>by
  obtain⟨i1,i2,i3,i5,i4⟩:=zoV l k (by omega);have up:∀s,ScR k s->ScR (k+1) s:=λs q=>⟨q.f,q.t,by have:=q.n;omega⟩
  obtain⟨x,hx⟩:∃x,l[k]? =some x:=⟨_,lgg (by omega)⟩;by_cases c1:clS x.Kind=1
  ·rw[ztU hx c1];dsimp only;refine⟨λs q=>up s (i1 s q),λ_=>?_,?_,?_,by omega⟩
   ·split
    ·exact⟨by dsimp only;omega,by dsimp only;omega,by dsimp only;omega⟩
    ·exact⟨by dsimp only;omega,by dsimp only;omega,by dsimp only;omega⟩
   ·split<;>omega
   ·split<;>omega
  by_cases c2:clS x.Kind=2
  ·rw[zx3 hx c2];dsimp only;refine⟨λs q=>up s (i1 s q),λq=>?_,by omega,by omega,by omega⟩;have:=i2 q;exact⟨q,by have q1:=this.t;have q2:=this.n;dsimp only;omega,by dsimp only;omega⟩
  by_cases c3:clS x.Kind=3
  ·rw[zp5 hx,zdn,j7 c1,j7 c2,j6 c3];dsimp only;refine⟨λs q=>?_,λq=>absurd q (by decide),by omega,by omega,?_⟩
   ·split at q
    ·rename_i Z;rcases jY.1 q with q|q
     ·exact up s (i1 s q)
     ·rw[wR.1 q];exact up _ (i2 Z)
    ·exact up s (i1 s q)
   ·split
    ·rw[jC,wW];omega
    ·omega
  ·rw[zAL hx c1 c2 c3];exact⟨λs q=>up s (i1 s q),λq=>up _ (i2 q),by omega,by omega,by omega⟩
def zro(l:List Sg):∀s∈scV l,ScR l.length s:=by
 obtain⟨i1,i2,-⟩:=zoV l l.length (jE _);intro s hs;unfold scV at hs;split at hs
 ·rename_i h;rcases jY.1 hs with q|q
  ·exact i1 s q
  ·rw[wR.1 q];exact i2 h
 ·exact i1 s hs
def zlt(l:List Sg):(scV l).length<=l.length+1:=by
 obtain⟨-,-,-,-,i4⟩:=zoV l l.length (jE _);unfold scV;split
 ·rw[jC,wW];omega
 ·omega
end
end Go.Rse
namespace Go.Rse
open Go Go.RowKit Go.Proofs.Tryz
section
section
variable{P:Program}{C:Ctx}{st:St}{ty:TypeId}
def zlu{t:TypeId}{s:ByteArray}{x y:Operand}{kk:IntKind}{i:Int}(ht:P.underlying t=some .string)(hx:ev st x=some (.str s))(Z:ev st y=some (.int kk i))(h0:0<=i)(h1:i.toNat<s.size):
 Pur P C (.index t x y) ty st (.int .u8 ((s[i.toNat]'h1).toNat:Int)):=λg a w dst pos af gd hr=>by
 have ex:=zpp (yA hr hx);have ey:=y5 (yA hr Z);refine⟨.int .u8 ((s[i.toNat]'h1).toNat:Int),?_,.int _ _⟩;simp[execOp,Instr.index,asIntOf,ex,ey,run_underlying ht,h0,h1]
def zf1{t:TypeId}{s:ByteArray}{x:Operand}(ht:P.underlying t=some .string)(hx:ev st x=some (.str s)):
 Pur P C (.call {callee:=.builtin .len,args:= #[x],argTypes:= #[t]}) ty st (.int .i64 s.size):=λg a w dst pos af gd hr=>by
 have ex:=zpp (yA hr hx);refine⟨.int .i64 s.size,?_,.int _ _⟩;simp[execOp,resolve,invoke,builtin,ex,Builtin.len_,run_underlying ht,Result.andThen];rfl
end
end
section
section
variable{P:Program}{C:Ctx}{st:St}{ty:TypeId}
end
def bsB(s:ByteArray):List Int:=s.data.toList.map λx=>(x.toNat:Int)
def zx4(s:ByteArray):(bsB s).length=s.size:=by unfold bsB;simp
def zAM{s:ByteArray}{i:Nat}(h:i<s.size):(bsB s).getD i 0=((s[i]'h).toNat:Int):=by
 have Z:i<s.data.toList.length:=by simpa using h
 unfold bsB;rw[jD,jN,lgg Z];rfl
def zdX{P:Program}{C:Ctx}{st:St}{ty:TypeId}{t:TypeId}{s:ByteArray}{x y:Operand}{kk:IntKind}{i:Int}(ht:P.underlying t=some .string)(hx:ev st x=some (.str s))(V:ev st y=some (.int kk i))(h0:0<=i)(h1:i<(s.size:Int)):
 Pur P C (.index t x y) ty st (.int .u8 ((bsB s).getD i.toNat 0)):=by
 have Z:i.toNat<s.size:=by omega
 rw[zAM Z];exact zlu ht hx V h0 Z
def lwB(c:Int):Bool:=decide (97<=c)&&decide (c<=122)
def dcB(c:Int):Bool:=decide (48<=c)&&decide (c<=57)
def nkB(c:Int):Bool:=lwB c||dcB c||decide (c=45)
def nmQ(l:List Int):Bool:=l.all nkB&&(decide (0<l.length)&&decide (l.length<=20)&&lwB (l.getD 0 0))
def zAN{c:Int}(h:(c<97\/122<c)/\(c<48\/57<c)/\¬c=45):nkB c=false:=by
 unfold nkB lwB dcB;simp;omega
def zAO{c:Int}(h:¬((c<97\/122<c)/\(c<48\/57<c)/\¬c=45)):nkB c=true:=by
 unfold nkB lwB dcB;simp;omega
def zx5{l:List Int}{k:Nat}(hk:k<l.length)(h:nkB (l.getD k 0)=false):nmQ l=false:=by
 have hm:l.getD k 0∈l:=by rw[jD,lgg hk];exact uZ hk
 unfold nmQ;rw[uW];left;rw[List.all_eq_false];exact⟨_,hm,by rw[h];simp⟩
def zx6{l:List Int}(h:l.all nkB=true):nmQ l=(decide (0<l.length)&&decide (l.length<=20)&&lwB (l.getD 0 0)):=by
 unfold nmQ;rw[h,kH]
def zEu{l:List Int}(h:l.length=0\/20<l.length\/lwB (l.getD 0 0)=false):nmQ l=false:=by
 unfold nmQ;rw[uW];right;rw[uW,uW,w5,w5];rcases h with h|h|h
 ·left;left;omega
 ·left;right;omega
 ·right;exact h
def zEv{l:List Int}{k:Nat}(h:(l.take k).all nkB=true)(hk:k<l.length)(ho:nkB (l.getD k 0)=true):(l.take (k+1)).all nkB=true:=by
 rw[jD,lgg hk]at ho;rw[jG,lgg hk,List.all_append,h];simpa using ho
end
end Go.Rse
namespace Go.Rse
open Go Go.Proofs Go.Proofs.Tryz
def gI(a b:Int):Int:=(Nat.gcd a.natAbs b.natAbs:Nat)
def zlv{a:Int}(h:0<=a):gI a 0=a:=by
 unfold gI;simp;omega
def zlw{a b:Int}(Z:0<=a)(V:0<b):gI b (a%b)=gI a b:=by
 obtain⟨m,rfl⟩:=uC Z;obtain⟨n,rfl⟩:=uC (uN V);unfold gI;have:((m:Int)%(n:Int)).natAbs=m%n:=by rw[←Int.natCast_emod];exact Int.natAbs_natCast _
 rw[this];simp only[Int.natAbs_natCast];rw[Nat.gcd_comm n (m%n),←Nat.gcd_rec,Nat.gcd_comm]
def zbY{n d:Int}(h:0<d):0<gI n d:=by
 unfold gI;have:0<Nat.gcd n.natAbs d.natAbs:=x9 _ (by omega);omega
def zwh(n d:Int):0<=gI n d:=by unfold gI;omega
def tmZ:Tm:=⟨0,0⟩
def ckT(t:Tm):Int:=if t.N<0\/1099511627776<t.N\/t.D<1\/1048576<t.D then 2 else if 1<gI t.N t.D then 3 else 0
def zM{t:Tm}(h:ckT t=0):0<=t.N/\t.N<=1099511627776/\0<=t.D/\t.D<=1048576/\1<=t.D/\gI t.N t.D=1:=by
 unfold ckT at h;split at h
 ·simp at h
 ·split at h
  ·simp at h
  ·have:=zbY (n:=t.N) (d:=t.D) (by omega);omega
def yM:List Tm->Int
 |[]=>0
 |t::r=>if ckT t=0 then yM r else ckT t
def zbu{l:List Tm}{k:Nat}{t:Tm}(h:l[k]? =some t):yM (l.drop k)=if ckT t=0 then yM (l.drop (k+1))else ckT t:=by
 have h1:=j5.1 h;rw[jL h1.1,h1.2];rfl
theorem zbZ{a b:Tm}(h:yM [a,b]=0):ckT a=0/\ckT b=0:=by
 simp only[yM]at h;by_cases Z:ckT a=0
 ·rw[j6 Z]at h;by_cases V:ckT b=0
  ·exact⟨Z,V⟩
  ·rw[j7 V]at h;exact absurd h V
 ·rw[j7 Z]at h;exact absurd h Z
theorem zkr:∀{l:List Tm},yM l=0->∀t∈l,ckT t=0
 |[],_,t,ht=>by simp at ht
 |s::r,h,t,ht=>by
  simp only[yM]at h;by_cases hs:ckT s=0
  ·rw[j6 hs]at h;rcases wA.1 ht with rfl|ht
   ·exact hs
   ·exact zkr h t ht
  ·rw[j7 hs]at h;exact absurd h hs
def mulB{x y X Y:Int}(h1:0<=x)(Z:x<=X)(V:0<=y)(U:y<=Y):0<=x*y/\x*y<=X*Y:=
 ⟨vQ h1 V,kB Z U V (Int.le_trans h1 Z)⟩
theorem mulP{x y:Int}(h1:1<=x)(Z:1<=y):1<=x*y:=by
 have:=kB h1 Z (by omega) (by omega);simpa using this
def tmkE(n d:Int):Int:=if n<0\/d<0 then 2 else if d=0 then 5 else if 1099511627776<n/gI n d\/1048576<d/gI n d then 4 else 0
def tmkT(n d:Int):Tm:=if tmkE n d=0 then⟨n/gI n d,d/gI n d⟩else tmZ
def addE(a b:Tm):Int:=if yM [a,b]=0 then tmkE (a.N*b.D+b.N*a.D) (a.D*b.D)else yM [a,b]
def addV(a b:Tm):Tm:=if yM [a,b]=0 then tmkT (a.N*b.D+b.N*a.D) (a.D*b.D)else tmZ
def subE(a b:Tm):Int:=if yM [a,b]=0 then tmkE (a.N*b.D-b.N*a.D) (a.D*b.D)else yM [a,b]
def subV(a b:Tm):Tm:=if yM [a,b]=0 then tmkT (a.N*b.D-b.N*a.D) (a.D*b.D)else tmZ
def bigQ(a b c d:Int):Prop:=(0<a/\1099511627776/a<c)\/(0<d/\1048576/d<b)
instance(a b c d:Int):Decidable (bigQ a b c d):=inferInstanceAs(Decidable (_\/_))
def tmsE(a b c d:Int):Int:=if bigQ (a/gI a d) (b/gI c b) (c/gI c b) (d/gI a d)then 4 else tmkE (a/gI a d*(c/gI c b)) (b/gI c b*(d/gI a d))
def tmsV(a b c d:Int):Tm:=if bigQ (a/gI a d) (b/gI c b) (c/gI c b) (d/gI a d)then tmZ else tmkT (a/gI a d*(c/gI c b)) (b/gI c b*(d/gI a d))
def mulE(a b:Tm):Int:=if yM [a,b]=0 then tmsE a.N a.D b.N b.D else yM [a,b]
def mulV(a b:Tm):Tm:=if yM [a,b]=0 then tmsV a.N a.D b.N b.D else tmZ
def cmpV(a b:Tm):Int:=if yM [a,b]=0 then(if a.N*b.D<b.N*a.D then-1 else if b.N*a.D<a.N*b.D then 1 else 0)else 0
def sumF:Tm->List Tm->Tm×Int
 |s,[]=>(s,0)
 |s,t::r=>if addE s t=0 then sumF (addV s t) r else(tmZ,addE s t)
def zks{l:List Tm}{k:Nat}{t s:Tm}(h:l[k]? =some t):sumF s (l.drop k)=if addE s t=0 then sumF (addV s t) (l.drop (k+1))else(tmZ,addE s t):=by
 have h1:=j5.1 h;rw[jL h1.1,h1.2];rfl
def sumE(l:List Tm):Int:=if yM l=0 then(sumF ⟨0,1⟩ l).2 else yM l
def sumV(l:List Tm):Tm:=if yM l=0 then(sumF ⟨0,1⟩ l).1 else tmZ
def whE(a b:Tm):Int:=if yM [a,b]=0 then(if b.N=0 then 5 else tmkE (a.N*b.D%(b.N*a.D)) (a.D*b.D))else yM [a,b]
def whQ(a b:Tm):Int:=if whE a b=0 then a.N*b.D/(b.N*a.D)else 0
def whR(a b:Tm):Tm:=if whE a b=0 then tmkT (a.N*b.D%(b.N*a.D)) (a.D*b.D)else tmZ
def zfe{a c M:Int}(Z:0<a)(U:0<=M)(h:¬M/a<c):a*c<=M:=by
 have h1:c<=M/a:=by omega
 have V:=vS h1 (uN Z);exact Int.le_trans V (Int.mul_ediv_self_le (by omega))
end Go.Rse
