/-
  Walks.
-/
import Derived.Test.YtamceaedmdmmlaaGreatDoorZJSpan1
import Derived.Test.YtamceaedmdmmlaaGreatDoorZJDot6
set_option linter.all false
namespace Go.Rse
open Go Go.Proofs Go.Proofs.Tryz
attribute [local irreducible] Pur yy yz Ex X Fn Imp LeV LeB FnO It yH
section
def zbq(m:Mn)(v:Int):Nat->Int
 |0=>1
 |n+1=>zbq m v n*m.p (v+n)
def dbl:Nat->Int
 |0=>1
 |n+1=>dbl n*2
def yw(m:Mn)(v:Int):Tm:=⟨zbq m v (5-v).toNat,dbl (v-5).toNat⟩
def zh8{m:Mn}(h:ckM m=0)(v:Int)(h1:1<=v):m.p v=2\/m.p v=3:=by
 rcases Int.lt_or_le 4 v with Z|Z
 ·exact .inl (zrU Z)
 ·have ho:m.Ok:=by
   unfold ckM at h;split at h
   ·assumption
   ·simp at h
  exact m.ok_iff.1 ho v h1 Z
def pw3:Nat->Int
 |0=>1
 |n+1=>pw3 n*3
def zlc{m:Mn}(h:ckM m=0){v:Int}(h1:1<=v):∀n,1<=zbq m v n/\zbq m v n<=pw3 n
 |0=>⟨xF _,xF _⟩
 |n+1=>by
  obtain⟨a,b⟩:=zlc h h1 n;simp only[zbq,pw3];rcases zh8 h (v+n) (by omega)with e|e<;>rw[e]<;>omega
def zv4:∀n,n<=4->pw3 n<=81
 |0,_=>by decide
 |1,_=>by decide
 |2,_=>by decide
 |3,_=>by decide
 |4,_=>by decide
 |n+5,h=>by omega
def zv5:∀n,n<=3->1<=dbl n/\dbl n<=8
 |0,_=>by decide
 |1,_=>by decide
 |2,_=>by decide
 |3,_=>by decide
 |n+4,h=>by omega
def zqB{m:Mn}{v:Int}(h:ckMV m v=0):ckM m=0/\1<=v/\v<=8:=by
 have Z:=zo8 h;refine⟨?_,Z⟩;unfold ckMV at h;unfold ckM;split at h
 ·rw[j6 (by assumption)]
 ·omega
def zdw(m:Mn)(j:Nat):List Int:=(([4,3,2,1]:List Int).take j).filter λv=>decide (m.p v=3)
def zpW(m:Mn)(j:Nat):(zdw m j).length<=4:=by
 unfold zdw;refine jT (wZ _ _) ?_;simp;omega
def zke(j:Nat)(h:j<4):([4,3,2,1]:List Int)[j]? =some (4-(j:Int)):=by
 have:j=0\/j=1\/j=2\/j=3:=by omega
 rcases this with rfl|rfl|rfl|rfl<;>rfl
def zpX{m:Mn}{j:Nat}(h:j<4)(Z:m.p (4-(j:Int))=3):zdw m j++[4-(j:Int)]=zdw m (j+1):=by
 unfold zdw;rw[jG,zke j h,uF];simp[Z]
def zqC{m:Mn}{j:Nat}(h:j<4)(Z:¬m.p (4-(j:Int))=3):zdw m j=zdw m (j+1):=by
 unfold zdw;rw[jG,zke j h,uF];simp[Z]
def zpY(m:Mn):zdw m 4=perfL m:=rfl
def zok(m:Mn)(v:Int)(j:Nat):zbq m v j*m.p (v+(j:Int))=zbq m v (j+1):=rfl
def zv6(j:Nat):dbl j*2=dbl (j+1):=rfl
def zxj(j:Nat):2*dbl j=dbl (j+1):=by rw[←zv6];exact Int.mul_comm _ _
attribute [local irreducible] zbq dbl zdw perfL
def zmh(m:Mn)(v:Int)(hm:ckM m=0)(h1:1<=v)(h8:v<=8):Fn prog 168 [mnA m,iv v] (tmA (yw m v)):=by
 have U:zbq m v 0=1:=by unfold zbq;rfl
 have T:dbl 0=1:=by unfold dbl;rfl
 refine kR func168 ntmps168 (λg w d=>?_);apply ye;refine zz ?_;refine za ?_;apply yE;refine yQ ?_;apply yh;apply ye;refine yQ ?_;apply kP;refine zm (λj=>[(1,iv v),(2,.ptr 2 0 0 0),(4,.ptr 4 0 0 0),(5,iv (zbq m v j)),(6,iv 1),(7,iv (v+(j:Int)))]) (λj=>[(2,.box (mnE m) 27),(4,.box [iv 0,iv 0] 61)]) ((5-v).toNat) (λj hk=>?_) (h0:=yd);refine gd ?_ ?_<;>intro N
 ·have J:j<(5-v).toNat:=by omega
  have H:=zlc (m:=m) hm h1 j;have G:=zv4 j (by omega);have E:=zh8 hm (v+j) (by omega);have Z:=zok m v j;have xT:0<=zbq m v j*m.p (v+(j:Int))/\zbq m v j*m.p (v+(j:Int))<=1000:=by rcases E with e|e<;>rw[e]<;>omega
  refine gc (zkp m (v+(j:Int)) (by omega) (by omega)) ?_;refine yu (j+1)
 ·have V:j=(5-v).toNat:=by omega
  subst V;apply bA;apply yh;apply ye;refine yj ?_;apply kP;refine zm (λj=>[(1,iv v),(2,.ptr 2 0 0 0),(4,.ptr 4 0 0 0),(5,iv (zbq m v (5-v).toNat)),(6,iv (dbl j)),(8,iv (5+(j:Int)))]) (λj=>[(2,.box (mnE m) 27),(4,.box [iv 0,iv 0] 61)]) ((v-5).toNat) (λj hk=>?_) (h0:=yd);refine gd ?_ ?_<;>intro x4
  ·have H:=zv5 j (by omega);have Z:=zv6 j;refine gq ?_;refine yu (j+1)
  ·have V:j=(v-5).toNat:=by omega
   subst V;refine gq ?_;refine kY (.one (.cellA rfl rfl rfl rfl ty61 (kO ?_)));all_goals rfl
def zmi(m:Mn)(v:Int):Fn prog 116 [mnA m,iv v] (.tup [tmA (if ckMV m v=0 then yw m v else tmZ),iv (ckMV m v)]):=by
 refine kR func116 ntmps116 (λg w d=>?_);refine gc (zcN m v) ?_;refine gd ?_ ?_<;>intro Z
 ·refine gq ?_;refine yx ty61 ?_ ?_;all_goals(first|rfl|(rw[j7 Z];done)|(rw[j7 Z];rfl)|(rw[j6 Z];done)|(rw[j6 Z];rfl)|exact zE Z)
 have V:=zqB Z;refine gc (zmh m v V.1 V.2.1 V.2.2) ?_;refine yx ty61 ?_ ?_;all_goals(first|rfl|(rw[j7 Z];done)|(rw[j7 Z];rfl)|(rw[j6 Z];done)|(rw[j6 Z];rfl)|exact zE Z)
def zfT(m:Mn)(v:Int):Fn prog 98 [mnA m,iv v] (.tup [tmA (if ckMV m v=0 then yw m v else tmZ),iv (ckMV m v)]):=by
 have N:zbq m v 0=1:=by unfold zbq;rfl
 have J:dbl 0=1:=by unfold dbl;rfl
 refine kR func98 ntmps98 (λg w d=>?_);refine gc (zcp m v) ?_;refine gd ?_ ?_<;>intro Z
 ·refine gq ?_;refine yx ty61 ?_ ?_;all_goals(first|rfl|(rw[j7 Z];done)|(rw[j7 Z];rfl)|(rw[j6 Z];done)|(rw[j6 Z];rfl)|exact zE Z)
 have V:=zqB Z;have hm:=V.1;have h1:=V.2.1;have h8:=V.2.2;apply yk;apply ye;refine yQ ?_;apply yh;apply ye;refine yQ ?_;apply kP;refine zm (λj=>[(1,iv v),(2,.ptr 2 0 0 0),(4,.ptr 4 0 0 0),(5,iv 0),(7,iv (zbq m v j)),(8,iv 1),(9,iv (v+(j:Int)))]) (λj=>[(2,.box (mnE m) 27),(4,.box [iv 0,iv 0] 61)]) ((5-v).toNat) (λj hk=>?_) (h0:=yd);refine gd ?_ ?_<;>intro H
 ·have G:j<(5-v).toNat:=by omega
  have E:=zlc (m:=m) hm h1 j;have xT:=zv4 j (by omega);have hp:=zh8 hm (v+j) (by omega);have U:=zok m v j;have x4:0<=zbq m v j*m.p (v+(j:Int))/\zbq m v j*m.p (v+(j:Int))<=1000:=by rcases hp with e|e<;>rw[e]<;>omega
  refine gc (yX m (v+(j:Int))) ?_;refine yu (j+1)
 ·have T:j=(5-v).toNat:=by omega
  subst T;apply bA;apply yh;apply ye;refine yQ ?_;apply kP;refine zm (λj=>[(1,iv v),(2,.ptr 2 0 0 0),(4,.ptr 4 0 0 0),(5,iv 0),(7,iv (zbq m v (5-v).toNat)),(8,iv (dbl j)),(10,iv (v-(j:Int)))]) (λj=>[(2,.box (mnE m) 27),(4,.box [iv 0,iv 0] 61)]) ((v-5).toNat) (λj hk=>?_) (h0:=yd);refine gd ?_ ?_<;>intro x3
  ·have E:=zv5 j (by omega);have U:=zxj j;refine gq ?_;refine yu (j+1)
  ·have T:j=(v-5).toNat:=by omega
   subst T;refine gq ?_;refine yx ty61 ?_ ?_;all_goals(first|rfl|(rw[j7 Z];done)|(rw[j7 Z];rfl)|(rw[j6 Z];done)|(rw[j6 Z];rfl)|exact zE Z)
def zb9(m:Mn):Fn prog 139 [mnA m] (.tup [yc (if ckM m=0 then perfL m else[]),iv (ckM m)]):=by
 have J:[]=zdw m 0:=by unfold zdw;rfl
 have V:=zpY m;refine kR func139 ntmps139 (λg w d=>?_);refine gc (zn m) ?_;refine gd ?_ ?_<;>intro Z
 ·apply ye;refine yC ?_;refine kQ ?_;refine kM (yd (ts:=[(2,yc []),(3,iv (ckM m))]) (hs:=[])) ?_;refine yl ?_ ?_;all_goals(first|(rw[j7 Z];done)|rfl|(rw[j6 Z,←V];rfl)|(rw[j6 Z,←V];done)|exact zE Z)
 apply yk;apply ye;refine yj ?_;iterate 2 apply yh
 refine kT (yG intE 3 1 5 5 rfl rfl) ?_;apply yf;refine yj ?_;apply kP;refine zm (λj=>[(1,.ptr 1 0 0 0),(5,.own 5),(6,iv (4-(j:Int)))]) (λj=>[(1,.box (mnE m) 27),(5,.row intE (zdw m j) 3 1)]) 4 (λj hk=>?_) (h0:=yd);refine gd ?_ ?_<;>intro H
 ·have N:=zpW m j;refine gc (yX m (4-(j:Int))) ?_;refine gd ?_ ?_<;>intro U
  ·have T:=zpX (by omega) U;refine gq ?_;refine yD intE [_] ?_;refine gq ?_;refine yu (j+1)
  ·have T:=zqC (by omega) U;refine gq ?_;refine yu (j+1)
 ·have G:j=4:=by omega
  subst G;apply bA;apply ye;refine yC ?_;refine kQ ?_;refine kM (kL (k:=5) rfl) ?_;refine yl ?_ ?_;all_goals(first|(rw[j7 Z];done)|rfl|(rw[j6 Z,←V];rfl)|(rw[j6 Z,←V];done)|exact zE Z)
end
section
def Mn.pl(m:Mn):Bool:=decide (m.Max=2)&&decide (m.Mod=2)&&decide (m.Tem=2)&&decide (m.Pro=2)
def durR(m:Mn):Nat->Int->Tm
 |0,v=>if m.pl=true then mulV (yw m v) ⟨2,3⟩else yw m v
 |n+1,v=>if m.pl=true then mulV (yw m v) ⟨2,3⟩else if m.p v=3 then mulV (yw m v) ⟨2,3⟩else mulV (durR m n (v+1)) ⟨2,1⟩
def durT(m:Mn)(v:Int):Tm:=durR m (5-v).toNat v
def zol{m:Mn}{v:Int}(h:m.pl=true):durT m v=mulV (yw m v) ⟨2,3⟩:=by
 unfold durT;cases(5-v).toNat<;>simp[durR,h]
def zmj{m:Mn}{v:Int}(h:m.pl=false)(Z:5<=v):durT m v=yw m v:=by
 unfold durT;rw[show(5-v).toNat=0 by omega];simp[durR,h]
def zqD{m:Mn}{v:Int}(h:m.pl=false)(V:v<5)(Z:m.p v=3):durT m v=mulV (yw m v) ⟨2,3⟩:=by
 unfold durT;rw[show(5-v).toNat=(4-v).toNat+1 by omega];simp[durR,h,Z]
def zqE{m:Mn}{v:Int}(h:m.pl=false)(V:v<5)(Z:¬m.p v=3):durT m v=mulV (durT m (v+1)) ⟨2,1⟩:=by
 unfold durT;rw[show(5-v).toNat=(5-(v+1)).toNat+1 by omega];simp[durR,h,Z]
def zaZ{m:Mn}{v:Int}(hm:ckM m=0)(h1:1<=v)(Z:v<=8):Fn prog 116 [mnA m,iv v] (.tup [tmA (yw m v),iv 0]):=by
 have h:=zmi m v
 have h0:ckMV m v=0:=by
  unfold ckM at hm;unfold ckMV;split at hm
  ·rw[j6 (by assumption),j6 ⟨h1,Z⟩]
  ·simp at hm
 rw[h0,j6 rfl]at h;exact h
def zfB{m:Mn}{v:Int}(hm:ckM m=0)(h1:1<=v)(Z:v<=8):Fn prog 112 [mnA m,iv v] (.tup [iv (m.p v),iv 0]):=by
 have h:=zdW m v
 have h0:ckMV m v=0:=by
  unfold ckM at hm;unfold ckMV;split at hm
  ·rw[j6 (by assumption),j6 ⟨h1,Z⟩]
  ·simp at hm
 rw[h0,j6 rfl]at h;exact h
attribute [local irreducible] yw durT mulV
def zeq(t:Tm):Fn prog 219 [tmA t] (tmA (mulV t ⟨2,3⟩)):=by
 refine kR func219 ntmps219 (λg w d=>?_);refine gc (zd2 t ⟨2,3⟩) ?_;refine kY (.one (.cellA rfl rfl rfl rfl ty61 (kO ?_)));all_goals rfl
def zjT(m:Mn)(hm:ckM m=0)(v:Int)(h1:1<=v)(N:v<=8):FnO prog 218 [iv v,.ptr 2000000 0 0 0,.ptr 2000001 0 0 0,.ptr 2000002 0 0 0] [(2000000,.box (mnE m) 27),(2000001,.box [.bool m.pl] 4),(2000002,.box [.fn 218 [.ptr 2000000 0 0 0,.ptr 2000001 0 0 0,.ptr 2000002 0 0 0]] 270)] [2000000,2000001,2000002] (tmA (durT m v)) [(2000000,.box (mnE m) 27),(2000001,.box [.bool m.pl] 4),(2000002,.box [.fn 218 [.ptr 2000000 0 0 0,.ptr 2000001 0 0 0,.ptr 2000002 0 0 0]] 270)]:=by
 induction hn:(5-v).toNat using Nat.strongRecOn generalizing v
 rename_i n ih;refine bH (ts:=[(0,iv v),(1,.ptr 2000000 0 0 0),(2,.ptr 2000001 0 0 0),(3,.ptr 2000002 0 0 0)]) (rv:=[.cell 5 61]) (n:=47) (cs:=[.ptr 2000000 0 0 0,.ptr 2000001 0 0 0,.ptr 2000002 0 0 0]) (by kernel_rfl) func218 rfl ntmps218 rfl rfl (by simp) rfl rfl rfl rfl (λg w d vs=>?_);refine gc (zaZ hm h1 N) ?_;refine gc (zfB hm h1 N) ?_;refine gd ?_ ?_<;>intro Z
 ·have V:=zol (v:=v) Z;refine gq ?_;refine yR (zeq _) ?_;refine kV ?_;apply kW;refine kQ ?_;refine zkW.mk [(5,.ptr 5 0 0 0)] [(5,.box (tmE (mulV (yw m v) ⟨2,3⟩)) 61)] (.inr rfl) (.one (.cellA rfl rfl rfl rfl ty61 (kO ?_)));all_goals rw[V]
 refine gd ?_ ?_<;>intro U
 ·have V:=zmj Z U;apply ye;refine ya ?_;refine kV ?_;apply kW;refine kQ ?_;refine zkW.mk [(5,.ptr 5 0 0 0)] [(5,.box (tmE (yw m v)) 61)] (.inr rfl) (.one (.cellA rfl rfl rfl rfl ty61 (kO ?_)));all_goals rw[V]
 refine gd ?_ ?_<;>intro T
 ·have V:=zqD Z U T;refine gq ?_;refine yR (zeq _) ?_;refine kV ?_;apply kW;refine kQ ?_;refine zkW.mk [(5,.ptr 5 0 0 0)] [(5,.box (tmE (mulV (yw m v) ⟨2,3⟩)) 61)] (.inr rfl) (.one (.cellA rfl rfl rfl rfl ty61 (kO ?_)));all_goals rw[V]
 have V:=zqE Z U T;refine gq ?_;refine zZ [(2000000,2000000),(2000001,2000001),(2000002,2000002)] (ih (5-(v+1)).toNat (by omega) (v+1) (by omega) (by omega) rfl) ?_;refine gq ?_;refine yR (zd2 (durT m (v+1)) ⟨2,1⟩) ?_;iterate 3 refine ya ?_
 refine za ?_;refine kV ?_;refine ya ?_;apply yE;refine ya ?_;refine kV ?_;apply kW;refine kQ ?_;refine zkW.mk [(5,.ptr 5 0 0 0)] [(5,.box (tmE (mulV (durT m (v+1)) ⟨2,1⟩)) 61)] (.inr rfl) (.one (.cellA rfl rfl rfl rfl ty61 (kO ?_)));all_goals rw[V]
def zhB(m:Mn)(hm:ckM m=0)(v:Int)(h1:1<=v)(Z:v<=8):Fn prog 155 [mnA m,iv v] (tmA (durT m v)):=by
 have V:(decide (m.Max=2)&&decide (m.Mod=2)&&decide (m.Tem=2)&&decide (m.Pro=2))=m.pl:=by unfold Mn.pl;rfl
 refine kR func155 ntmps155 (λg w d=>?_);apply ye;refine zz ?_;refine za ?_;apply yE;iterate 3 refine ya ?_
 refine kU 3 ?_;refine yo ?_;iterate 3 refine kS ?_
 iterate 2 refine yo ?_
 iterate 3 refine kS ?_
 iterate 2 refine yo ?_
 iterate 3 refine kS ?_
 refine ge ?_;refine zZ [(2000000,2),(2000001,5),(2000002,6)] (zjT m hm v h1 Z) ?_;refine gq ?_;refine kY (.one (.cellA rfl rfl rfl rfl ty61 (kO ?_)));all_goals rfl
def zmk(m:Mn)(v:Int):Fn prog 237 [mnA m,iv v] (.tup [tmA (if ckMV m v=0 then durT m v else tmZ),iv (ckMV m v)]):=by
 refine kR func237 ntmps237 (λg w d=>?_);refine gc (zaw m) ?_;refine gd ?_ ?_<;>intro Z
 ·have hE:ckMV m v=ckM m:=by unfold ckMV ckM at*;split<;>simp_all
  refine gq ?_;refine yx ty61 ?_ ?_;all_goals(first|exact zE hE|(rw[hE,j6 rfl];done)|(rw[hE,j6 rfl];rfl)|(rw[hE,j7 Z];rfl))
 apply yk;apply yh;apply ye;iterate 2 refine ya ?_
 refine kU 2 ?_;refine yo ?_;iterate 2 refine kS ?_
 refine gf ?_ ?_<;>intro V
 ·have hE:ckMV m v=2:=by unfold ckM at Z;unfold ckMV;split at Z<;>simp_all;omega
  refine gq ?_;refine yx ty61 ?_ ?_;all_goals(first|exact zE hE|(rw[hE,j6 rfl];done)|(rw[hE,j6 rfl];rfl)|(rw[hE,j7 Z];rfl))
 have hE:ckMV m v=0:=by unfold ckM at Z;unfold ckMV;split at Z<;>simp_all<;>omega
 refine gc (zhB m Z v (by omega) (by omega)) ?_;refine yx ty61 ?_ ?_;all_goals(first|exact zE hE|(rw[hE,j6 rfl];done)|(rw[hE,j6 rfl];rfl)|(rw[hE,j7 Z];rfl))
end
section
def zdc(f:Mn->Int->Bool):Bool:=([2,3]:List Int).all λa=>([2,3]:List Int).all λb=>([2,3]:List Int).all λc=>([2,3]:List Int).all λe=>([1,2,3,4,5,6,7,8]:List Int).all λv=>f ⟨a,b,c,e⟩ v
theorem zab{f:Mn->Int->Bool}(h:zdc f=true){m:Mn}{v:Int}(hm:ckM m=0)(h1:1<=v)(V:v<=8):f m v=true:=by
 have ho:m.Ok:=by
  unfold ckM at hm;split at hm
  ·assumption
  ·simp at hm
 obtain⟨a,b,c,e⟩:=m;have hv:v∈([1,2,3,4,5,6,7,8]:List Int):=by simp;omega
 have Z:∀x:Int,two3 x->x∈([2,3]:List Int):=λx hx=>by simpa[two3]using hx
 unfold zdc at h;exact jF.1 (jF.1 (jF.1 (jF.1 (jF.1 h a (Z _ ho.1)) b (Z _ ho.2.1)) c (Z _ ho.2.2.1)) e (Z _ ho.2.2.2)) v hv
def zv7(m:Mn)(v:Int):Bool:=
 decide (mulV (yw m v) ⟨2,3⟩=tmkT ((yw m v).N*2) ((yw m v).D*3))&&decide (mulV (durT m v) ⟨2,1⟩=tmkT ((durT m v).N*2) ((durT m v).D*1))&&
 decide (ckT (yw m v)=0)&&decide (ckT (durT m v)=0)&&decide ((yw m v).N<=81)&&decide ((yw m v).D<=8)&&decide ((durT m v).N<=81)&&decide ((durT m v).D<=24)&&decide (1<=(yw m v).N)&&decide (1<=(durT m v).N)
def zpZ:zdc zv7=true:=by kernel_rfl
def ze6{m:Mn}{v:Int}(hm:ckM m=0)(h1:1<=v)(Z:v<=8):mulV (yw m v) ⟨2,3⟩=tmkT ((yw m v).N*2) ((yw m v).D*3)/\mulV (durT m v) ⟨2,1⟩=tmkT ((durT m v).N*2) ((durT m v).D*1)∧
 ckT (yw m v)=0/\ckT (durT m v)=0/\(yw m v).N<=81/\(yw m v).D<=8/\(durT m v).N<=81/\(durT m v).D<=24/\1<=(yw m v).N/\1<=(durT m v).N:=by
 have h:=zab zpZ hm h1 Z;unfold zv7 at h;simp only[jA,w4]at h;obtain⟨⟨⟨⟨⟨⟨⟨⟨⟨a,b⟩,c⟩,d⟩,e⟩,f⟩,g⟩,i⟩,j⟩,k⟩:=h;exact⟨a,b,c,d,e,f,g,i,j,k⟩
def zml(m:Mn)(hm:ckM m=0):((perfL m).length:Int)=0↔m.pl=true:=by
 have h:∀v:Int,1<=v->m.p v=2\/m.p v=3:=zh8 hm;have a:=h 1 (by omega);have b:=h 2 (by omega);have c:=h 3 (by omega);have e:=h 4 (by omega);have e1:m.p 1=m.Max:=rfl;have e2:m.p 2=m.Mod:=rfl;have e3:m.p 3=m.Tem:=rfl;have e4:m.p 4=m.Pro:=rfl;unfold perfL Mn.pl;rw[e1]at a;rw[e2]at b;rw[e3]at c;rw[e4]at e;simp only[uM,e1,e2,e3,e4,List.filter_nil];rcases a with a|a<;>rcases b with b|b<;>rcases c with c|c<;>rcases e with e|e<;>simp[a,b,c,e]
end
section
def znt{m:Mn}{v:Int}(hm:ckM m=0)(h1:1<=v)(Z:v<=8):ckMV m v=0:=by
 unfold ckM at hm;unfold ckMV;split at hm
 ·rw[j6 (by assumption),j6 ⟨h1,Z⟩]
 ·simp at hm
def zy{m:Mn}{v:Int}(hm:ckM m=0)(h1:1<=v)(Z:v<=8):Fn prog 98 [mnA m,iv v] (.tup [tmA (yw m v),iv 0]):=by
 have h:=zfT m v;rw[znt hm h1 Z,j6 rfl]at h;exact h
def zed{m:Mn}(hm:ckM m=0):Fn prog 139 [mnA m] (.tup [yc (perfL m),iv 0]):=by
 have h:=zb9 m;rw[hm,j6 rfl]at h;exact h
def zmm{m:Mn}(hm:ckM m=0)(h:¬((perfL m).length:Int)=0):m.pl=false:=by
 cases Z:m.pl with
 |false=>rfl
 |true=>exact absurd ((zml m hm).2 Z) h
def zxk{m:Mn}{v:Int}(hm:ckM m=0)(h1:1<=v)(V:v<=8)(h:((perfL m).length:Int)=0\/(v<5/\m.p v=3)):durT m v=tmkT ((yw m v).N*2) ((yw m v).D*3):=by
 rw[←(ze6 hm h1 V).1];cases Z:m.pl with
 |true=>exact zol Z
 |false=>
  rcases h with h|h
  ·rw[(zml m hm).1 h]at Z;cases Z
  ·exact zqD Z h.1 h.2
def zxl{m:Mn}{v:Int}(hm:ckM m=0)(h1:1<=v)(Z:m.pl=false)(V:v<5)(U:¬m.p v=3):durT m v=tmkT ((durT m (v+1)).N*2) ((durT m (v+1)).D*1):=by
 rw[←(ze6 hm (show 1<=v+1 by omega) (by omega)).2.1];exact zqE Z V U
def clr(s:Sg):Bool:=decide (s.Kind=1)&&s.Color
def zdd(l:List Sg)(by':Int):Nat->Int->Option Sg
 |0,_=>none
 |n+1,i=>if 0<=i/\i<(l.length:Int)then(if(l.getD i.toNat default).Kind=3 then zdd l by' n (i+by')else some (l.getD i.toNat default))else none
def zde(l:List Sg)(by' i:Int):Option Sg:=zdd l by' (l.length+2) i
def zkf{l:List Sg}{by':Int}{n:Nat}{i:Int}(h:¬(0<=i/\i<(l.length:Int))):zdd l by' n i=none:=by
 cases n with
 |zero=>rfl
 |succ n=>unfold zdd;rw[j7 h]
def zkg{l:List Sg}{by':Int}{n:Nat}{i:Int}(h:0<=i/\i<(l.length:Int))(Z:¬(l.getD i.toNat default).Kind=3)(hn:0<n):zdd l by' n i=some (l.getD i.toNat default):=by
 cases n with
 |zero=>omega
 |succ n=>unfold zdd;rw[j6 h,j7 Z]
def zmn{l:List Sg}{by':Int}{n:Nat}{i:Int}(h:0<=i/\i<(l.length:Int))(Z:(l.getD i.toNat default).Kind=3)(hn:0<n):zdd l by' n i=zdd l by' (n-1) (i+by'):=by
 cases n with
 |zero=>omega
 |succ n=>conv=>lhs;unfold zdd
          rw[j6 h,j6 Z];rfl
def sgZ0:Sg:=⟨0,0,0,0,false,0,false,false,⟨0,0,0,0⟩,false,0,0,0,0⟩
def frB:Option Sg->Bool
 |some s=>!clr s
 |none=>true
def zom:Option Sg->Sg
 |some s=>s
 |none=>sgZ0
def zau(l:List Sg)(i:Int):Bool:=decide (i+1<(l.length:Int))&&clr (l.getD i.toNat default)&&decide ((l.getD i.toNat default).Value=4)&&clr (l.getD (i+1).toNat default)&&decide ((l.getD (i+1).toNat default).Value=5)&&
 !(decide (i+2<(l.length:Int))&&decide ((l.getD (i+2).toNat default).Kind=3))&&frB (zde l (-1) (i-1))&&frB (zde l 1 (i+2))
attribute [local irreducible] yw durT mulV tmkT perfL zdd
def zcm(t:Tm)(n q:Int)(Z:0<=t.N*n/\t.N*n<=9223372036854775807)(V:0<=t.D*q/\t.D*q<=9223372036854775807):Fn prog 244 [tmA t,iv n,iv q] (tmA (tmkT (t.N*n) (t.D*q))):=by
 refine kR func244 ntmps244 (λg w d=>?_);refine gc (zcV (t.N*n) (t.D*q) (by omega) (by omega)) ?_;refine kY (.one (.cellA rfl rfl rfl rfl ty61 (kO ?_)));all_goals rfl
def zdf(m:Mn)(hm:ckM m=0)(v:Int)(h1:1<=v)(T:v<=8):Fn prog 204 [mnA m,iv v] (tmA (durT m v)):=by
 induction hn:(5-v).toNat using Nat.strongRecOn generalizing v
 rename_i n ih;have hf:=ze6 hm h1 T;have J:=zM hf.2.2.1;refine kR func204 ntmps204 (λg w d=>?_);refine gc (zy hm h1 T) ?_;refine yR (zed hm) ?_;iterate 2 refine ya ?_
 refine yC ?_;apply yh;apply kP;apply ye;iterate 3 refine ya ?_
 refine kU 3 ?_;refine gq ?_;refine bJ (yX m v) ?_;iterate 2 refine kS ?_
 refine gf ?_ ?_<;>intro Z
 ·have V:=zxk hm h1 T Z;refine gc (zcm (yw m v) 2 3 (by omega) (by omega)) ?_;refine kY (.one (.cellA rfl rfl rfl rfl ty61 (kO ?_)));all_goals exact zE V
 refine gd ?_ ?_<;>intro U
 ·have V:=zmj (zmm hm Z.1) U;refine gq ?_;refine kY (.one (.cellA rfl rfl rfl rfl ty61 (kO ?_)));all_goals exact zE V
 have V:=zxl hm h1 (zmm hm Z.1) U (by omega);have N:=ze6 hm (show 1<=v+1 by omega) (by omega);have H:=zM N.2.2.2.1;refine gq ?_;refine yR (ih (5-(v+1)).toNat (by omega) (v+1) (by omega) (by omega) rfl) ?_;refine gc (zcm (durT m (v+1)) 2 1 (by omega) (by omega)) ?_;refine kY (.one (.cellA rfl rfl rfl rfl ty61 (kO ?_)));all_goals exact zE V
def zgs(m:Mn)(v:Int):Fn prog 144 [mnA m,iv v] (.tup [tmA (if ckMV m v=0 then durT m v else tmZ),iv (ckMV m v)]):=by
 refine kR func144 ntmps144 (λg w d=>?_);refine gc (zn m) ?_;refine gd ?_ ?_<;>intro Z
 ·have hE:ckMV m v=ckM m:=by unfold ckMV ckM at*;split<;>simp_all
  refine gq ?_;refine yx ty61 ?_ ?_;all_goals(first|exact zE hE|(rw[hE,j6 rfl];done)|(rw[hE,j6 rfl];rfl)|(rw[hE,j7 Z];rfl))
 apply yk;apply yh;apply ye;iterate 2 refine ya ?_
 refine kU 2 ?_;refine yo ?_;iterate 2 refine kS ?_
 refine gf ?_ ?_<;>intro V
 ·have hE:ckMV m v=2:=by unfold ckM at Z;unfold ckMV;split at Z<;>simp_all;omega
  refine gq ?_;refine yx ty61 ?_ ?_;all_goals(first|exact zE hE|(rw[hE,j6 rfl];done)|(rw[hE,j6 rfl];rfl)|(rw[hE,j7 Z];rfl))
 have hE:ckMV m v=0:=by unfold ckM at Z;unfold ckMV;split at Z<;>simp_all<;>omega
 refine gc (zdf m Z v (by omega) (by omega)) ?_;refine yx ty61 ?_ ?_;all_goals(first|exact zE hE|(rw[hE,j6 rfl];done)|(rw[hE,j6 rfl];rfl)|(rw[hE,j7 Z];rfl))
def zbc(s:Sg):Fn prog 154 [sgA s] (.bool (clr s)):=by
 refine kR func154 ntmps154 (λg w d=>?_);apply ye;refine zz ?_;refine ya ?_;apply yE;iterate 3 refine ya ?_
 refine kU 3 ?_;refine yo ?_;iterate 2 refine kS ?_
 refine ge ?_;all_goals rfl
def zA(s:Sg):Fn prog 203 [sgA s] (.bool (clr s)):=by
 refine kR func203 ntmps203 (λg w d=>?_);apply ye;refine zz ?_;refine ya ?_;apply yE;iterate 3 refine ya ?_
 refine kU 3 ?_;refine yo ?_;iterate 2 refine kS ?_
 refine ge ?_;all_goals rfl
def zgt(l:List Sg)(hl:l.length<=4000000000)(i b:Int)(U:b=1\/b=-1)(h0:-2<=i)(h1:i<=(l.length:Int)+2)(T:b=-1->i<=(l.length:Int)+1):Fn prog 279 [sgsA l,iv i,iv b] (.bool (frB (zde l b i))):=by
 refine kR func279 ntmps279 (λg w d=>?_);refine gq ?_;refine zen (ι:=Nat×Int) (λ(p:Nat×Int)=>[(0,sgsA l),(1,iv p.2),(2,iv b)]) (λ(p:Nat×Int)=>[]) (λ(p:Nat×Int)=>zdd l b (l.length+2) i=zdd l b p.1 p.2/\((b=1/\(l.length:Int)-p.2<=(p.1:Int))\/(b=-1/\p.2+1<=(p.1:Int)))/\-3<=p.2/\p.2<=(l.length:Int)+3) (λ(p:Nat×Int)=>p.1) (l.length+2,i) (λp hk=>?_) (hJ:=by exact⟨rfl,by dsimp only;omega,by dsimp only;omega,by dsimp only;omega⟩);obtain⟨n,j⟩:=p;obtain⟨k1,k2,k3,k4⟩:=hk;dsimp only at*
 apply yh;apply ye;iterate 2 refine ya ?_
 refine kU 2 ?_;refine yo ?_;iterate 4 refine kS ?_
 refine gf ?_ ?_<;>intro Z
 ·refine gd ?_ ?_<;>intro V
  ·refine gc (zbc _) ?_;all_goals(unfold zde;rw[k1,zkg Z V (by omega)];rfl)
  refine gq ?_;refine yu ((n-1,j+b)) (hJ:=by exact⟨by rw[k1,zmn Z V (by omega)],by dsimp only;omega,by dsimp only;omega,by dsimp only;omega⟩) (hm:=by dsimp only;omega)
 ·refine gq ?_;all_goals(unfold zde;rw[k1,zkf (by omega)];rfl)
def zcH(l:List Sg)(hl:l.length<=4000000000)(i b:Int)(T:b=1\/b=-1)(h0:-2<=i)(h1:i<=(l.length:Int)+2)(N:b=-1->i<=(l.length:Int)+1):Fn prog 273 [sgsA l,iv i,iv b] (.tup [sgA (zom (zde l b i)),.bool (zde l b i).isSome]):=by
 refine kR func273 ntmps273 (λg w d=>?_);refine gq ?_;refine zen (ι:=Nat×Int) (λ(p:Nat×Int)=>[(0,sgsA l),(1,iv p.2),(2,iv b),(6,.ptr 6 0 0 0)]) (λ(p:Nat×Int)=>[(6,.box (sgE sgZ0) 76)]) (λ(p:Nat×Int)=>zdd l b (l.length+2) i=zdd l b p.1 p.2/\((b=1/\(l.length:Int)-p.2<=(p.1:Int))\/(b=-1/\p.2+1<=(p.1:Int)))/\-3<=p.2/\p.2<=(l.length:Int)+3) (λ(p:Nat×Int)=>p.1) (l.length+2,i) (λp hk=>?_) (hJ:=by exact⟨rfl,by dsimp only;omega,by dsimp only;omega,by dsimp only;omega⟩);obtain⟨n,j⟩:=p;obtain⟨k1,k2,k3,k4⟩:=hk;dsimp only at*
 apply yh;apply ye;iterate 2 refine ya ?_
 refine kU 2 ?_;refine yo ?_;iterate 4 refine kS ?_
 refine gf ?_ ?_<;>intro Z
 ·refine gd ?_ ?_<;>intro V
  ·have U:zde l b i=some (l.getD j.toNat default):=by unfold zde;rw[k1,zkg Z V (by omega)]
   refine gq ?_;refine yx ty76 ?_ ?_;all_goals exact zE U
  refine gq ?_;refine yu ((n-1,j+b)) (hJ:=by exact⟨by rw[k1,zmn Z V (by omega)],by dsimp only;omega,by dsimp only;omega,by dsimp only;omega⟩) (hm:=by dsimp only;omega)
 ·have U:zde l b i=none:=by unfold zde;rw[k1,zkf (by omega)]
  refine gq ?_;refine yx ty76 ?_ ?_;all_goals exact zE U
end
section
def zqF(o:Option Sg):frB o=!(o.isSome&&clr (zom o)):=by cases o<;>simp[frB,zom]
def zmo{l:List Sg}{i:Int}(h:(((((l.length:Int)<=i+1\/clr (l.getD i.toNat default)=false)\/¬(l.getD i.toNat default).Value=4)\/clr (l.getD (i+1).toNat default)=false)\/¬(l.getD (i+1).toNat default).Value=5)):zau l i=false:=by
 unfold zau;rcases h with(((h|h)|h)|h)|h
 ·rw[jH (show¬i+1<(l.length:Int)by omega)];simp
 ·rw[h];simp
 ·rw[jH h];simp
 ·rw[h];simp
 ·rw[jH h];simp
def zp0{l:List Sg}{i:Int}(h:i+2<(l.length:Int)/\(l.getD (i+2).toNat default).Kind=3):zau l i=false:=by
 unfold zau;rw[jJ h.1,jJ h.2];simp
def zkh{l:List Sg}{i:Int}(h:(((i+1<(l.length:Int)/\clr (l.getD i.toNat default)=true)/\(l.getD i.toNat default).Value=4)/\clr (l.getD (i+1).toNat default)=true)/\(l.getD (i+1).toNat default).Value=5):zau l i=(!(decide (i+2<(l.length:Int))&&decide ((l.getD (i+2).toNat default).Kind=3))&&frB (zde l (-1) (i-1))&&frB (zde l 1 (i+2))):=by
 unfold zau;rw[jJ h.1.1.1.1,h.1.1.1.2,jJ h.1.1.2,h.1.2,jJ h.2];rfl
attribute [local irreducible] zau zde frB zom clr
def zgu(l:List Sg)(hl:l.length<=4000000000)(i:Int)(h0:0<=i)(h1:i<(l.length:Int)):Fn prog 252 [sgsA l,iv i] (.bool (zau l i)):=by
 refine kR func252 ntmps252 (λg w d=>?_);apply ye;refine yj ?_;apply yh;apply ye;iterate 5 refine ya ?_
 refine kU 5 ?_;refine gq ?_;refine bJ (zbc _) ?_;refine gq ?_;refine bJ (zbc _) ?_;refine kS ?_;iterate 2 refine yo ?_
 iterate 7 refine kS ?_
 refine gf ?_ ?_<;>intro Z
 ·refine gq ?_;all_goals(rw[zmo Z])
 apply yk;apply ye;iterate 5 refine ya ?_
 refine kU 5 ?_;refine yo ?_;iterate 7 refine kS ?_
 refine zdM ?_;iterate 2 refine ya ?_
 apply yE;iterate 2 refine ya ?_
 refine kU 2 ?_;refine gq ?_;refine bJ (zgt l hl (i-1) (-1) (.inr rfl) (by omega) (by omega) (by omega)) ?_;refine gq ?_;refine bJ (zgt l hl (i+2) 1 (.inl rfl) (by omega) (by omega) (by omega)) ?_;refine ge ?_;all_goals(rw[zkh Z])
def zfU(m:Mn)(l:List Sg)(hl:l.length<=4000000000)(i:Int)(h0:0<=i)(h1:i<(l.length:Int)):Fn prog 243 [mnA m,sgsA l,iv i] (.bool (decide (m.p 4=2)&&zau l i)):=by
 refine kR func243 ntmps243 (λg w d=>?_);apply ye;refine zz ?_;refine yj ?_;apply yh;apply ye;iterate 5 refine ya ?_
 refine kU 5 ?_;refine gq ?_;refine bJ (zA _) ?_;refine gq ?_;refine bJ (zA _) ?_;refine gq ?_;refine bJ (yX m 4) ?_;refine kS ?_;refine gf ?_ ?_<;>intro Z
 ·have V:(decide (m.p 4=2)&&zau l i)=false:=by
   rcases Z with h|h
   ·rw[zmo h];simp
   ·rw[jH h];rfl
  refine gq ?_;all_goals rw[V]
 apply yk;apply yh;apply ye;iterate 5 refine ya ?_
 refine kU 5 ?_;refine yo ?_;iterate 7 refine kS ?_
 refine gf ?_ ?_<;>intro U
 ·have V:=zp0 U;refine gq ?_;all_goals(rw[V];simp)
 have V:=zkh Z.1
 have T:(decide (i+2<(l.length:Int))&&decide ((l.getD (i+2).toNat default).Kind=3))=false:=by
  rcases U with h|h
  ·rw[jH (show¬i+2<(l.length:Int)by omega)];rfl
  ·rw[jH h];simp
 rw[T,zqF,zqF]at V;refine gc (zcH l hl (i-1) (-1) (.inr rfl) (by omega) (by omega) (by omega)) ?_;refine yR (zcH l hl (i+2) 1 (.inl rfl) (by omega) (by omega) (by omega)) ?_;iterate 3 refine ya ?_
 refine za ?_;refine kV ?_;refine ya ?_;apply yE;refine ya ?_;refine kU 1 ?_;refine gq ?_;refine bJ (zA _) ?_;refine gq ?_;refine bJ (zA _) ?_;iterate 2 refine kS ?_
 refine ge ?_;all_goals(rw[V,jJ Z.2];rfl)
end
section
theorem zmp(a:Int):coll posI [a]=if 0<a then[a]else[]:=by
 unfold coll dl posI srtI;by_cases h:0<a
 ·simp only[h,if_true,uM,decide_true,kG,Bool.not_false,List.filter_nil,List.mergeSort_singleton];rfl
 ·simp only[h,if_false,uM,decide_false,kG,Bool.not_false,List.filter_nil,List.mergeSort_nil];simp[Lib.compact,Lib.compactUpTo]
def srt2{a v:Int}(h:a<v):srtI [v,a]=[a,v]:=by
 simp_all[srtI,List.mergeSort]
theorem zqG{v a:Int}(hv:0<v)(Z:a<v):coll posI [v,a]=if 0<a then[a,v]else[v]:=by
 unfold coll;by_cases h:0<a
 ·have e:dl (λv=>!posI v) [v,a]=[v,a]:=by simp[dl,posI,h,hv]
  rw[e,srt2 Z,j6 h];have V:¬v=a:=by omega
  have U:¬a=v:=by omega
  simp[Lib.compact,Lib.compactUpTo,Lib.keeps,List.range_succ,V,U]
 simp_all[dl,posI,srtI,Lib.compact,Lib.compactUpTo,Lib.keeps]
def zxm(m:Mn){v:Int}(h:1<=v):0<=m.ab v/\m.ab v<v:=by
 unfold Mn.ab;cases e:(perfL m).find? λk=>decide (k<v)<;>grind[perfL]
def p23{m:Mn}{v:Int}(Z:ckM m=0):m.p v=2\/m.p v=3:=by
 have V:m.Ok:=by
  unfold ckM at Z;split at Z
  ·assumption
  ·omega
 obtain⟨a,b,c,d⟩:=V
 grind[two3,Mn.p]
theorem zki{m:Mn}{v:Int}(Z:ckM m=0)(h1:1<=v)(V:v<=8):ckMV m v=0:=by
 simp_all[ckM,ckMV]
def znu{m:Mn}{v:Int}(h1:1<=v):0<=m.aV v/\m.aV v<v:=by
 have:=zxm m h1
 grind[Mn.aV]
def mngR(m:Mn)(s:Sg):List Int:=
 if s.Kind=2 then[m.aV s.Value]else if s.Color=true then[0]else if m.p s.Value=2/\m.aV s.Value=0 then[0]else if m.p s.Value=2 then[0,m.aV s.Value]else if m.aV s.Value=0 then[s.Value]else[m.aV s.Value,s.Value]
theorem znv{m:Mn}{s:Sg}(Z:ckM m=0)(h1:1<=s.Value)(V:s.Value<=8)(U:¬(s.Kind=2/\m.aV s.Value=0)):mngs m s=mngR m s:=by
 have T:=znu (m:=m) h1;have N:=p23 (m:=m) (v:=s.Value) Z
 grind[Mn.pV,zki,mngs,mngR,zmp,zqG]
theorem ze7{m:Mn}{s:Sg}(Z:ckM m=0)(h1:1<=s.Value)(V:s.Value<=8):(mngs m s).length=0↔(s.Kind=2/\m.aV s.Value=0):=by
 grind[znv,mngR,mngs,zmp]
def sgR(m:Mn)(l:List Sg)(k:Nat)(s:Sg):Int:=
 if s.Kind=1\/s.Kind=2 then(if 1<=s.Value/\s.Value<=8 then 0 else 2)
 else if s.Kind=3 then(match k with|0=>13|j+1=>match l[j]? with|some p=>if p.Kind=3\/(p.Kind=2/\m.aV p.Value=0)then 13 else 0|none=>13)
 else 8
def zcs(m:Mn)(l:List Sg):Nat->List Sg->Int
 |_,[]=>0
 |k,s::r=>if sgR m l k s=0 then zcs m l (k+1) r else sgR m l k s
def ckR(m:Mn)(l:List Sg):Int:=if ckM m=0 then zcs m l 0 l else ckM m
theorem zdP{m:Mn}{l:List Sg}{k:Nat}{s:Sg}(h:l[k]? =some s)(h0:sgR m l k s=0):zcs m l k (l.drop k)=zcs m l (k+1) (l.drop (k+1)):=by
 grind[List.drop_eq_getElem_cons,zcs]
theorem zbr{m:Mn}{l:List Sg}{k:Nat}{s:Sg}(h:l[k]? =some s)(h0:sgR m l k s≠0):zcs m l k (l.drop k)=sgR m l k s:=by
 grind[List.drop_eq_getElem_cons,zcs]
theorem zon{m:Mn}{l:List Sg}{k:Nat}{s:Sg}(h0:sgF m l k s=0)(Z:s.Kind≠3):(s.Kind=1\/s.Kind=2)/\1<=s.Value/\s.Value<=8:=by
 simp_all[sgF];omega
def zAe{m:Mn}{l:List Sg}{k:Nat}{s:Sg}(T:ckM m=0)(hs:l[k]? =some s)(H:∀i s,i<k->l[i]? =some s->sgF m l i s=0):sgF m l k s=sgR m l k s:=by
 unfold sgF sgR;by_cases h:s.Kind=1\/s.Kind=2
 ·omega
 ·rw[j7 h,j7 h];by_cases N:s.Kind=3
  ·rw[j6 N,j6 N];cases k with
   |zero=>rfl
   |succ j=>
    cases U:l[j]? with
    |none=>simp only[U]
    |some p=>
     simp only[U];by_cases Z:p.Kind=3
     ·rw[j6 (.inl Z),j6 (.inl Z)]
     ·obtain⟨_,h1,J⟩:=zon (H j p (by omega) U) Z;by_cases V:(mngs m p).length=0
      ·rw[j6 (.inr V),j6 (.inr ((ze7 T h1 J).1 V))]
      ·rw[j7 (λh=>h.elim Z V),j7 (λh=>h.elim Z (λh=>V ((ze7 T h1 J).2 h)))]
  omega
def zmq{m:Mn}{l:List Sg}(U:ckM m=0):∀(n k:Nat),l.length-k=n->k<=l.length->(∀i s,i<k->l[i]? =some s->sgF m l i s=0)->zar m l k (l.drop k)=zcs m l k (l.drop k)
 |0,k,hn,hk,V=>by
  rw[wH (by omega)];rfl
 |n+1,k,hn,hk,V=>by
  have hs:l[k]? =some l[k]:=lgg (by omega);have he:=zAe U hs V;by_cases h0:sgF m l k l[k]=0
  ·rw[zdG hs h0,zdP hs (by rw[←he];exact h0)];refine zmq U n (k+1) (by omega) (by omega) λi s hi Z=>?_
   rcases wG.1 hi with h|h
   ·exact V i s h Z
   ·subst h;rw[hs]at Z;injection Z with Z;subst Z;exact h0
  grind[zb3,zbr]
theorem zoo(m:Mn)(l:List Sg):ckD m l=ckR m l:=by
 unfold ckD ckR;by_cases Z:ckM m=0
 ·rw[j6 Z,j6 Z];have:=zmq (l:=l) Z l.length 0 rfl (wK _) (λi s h=>absurd h (u0 i));simpa using this
 omega
def zdx{m:Mn}{l:List Sg}(h:ckD m l=0):ckM m=0/\zar m l 0 l=0:=by
 grind[ckD]
theorem zld{m:Mn}{l:List Sg}(h:ckD m l=0){j:Nat}{s p:Sg}(hs:l[j+1]? =some s)(U:s.Kind=3)(T:l[j]? =some p):
 p.Kind≠3/\(p.Kind=1\/p.Kind=2)/\1<=p.Value/\p.Value<=8/\¬(p.Kind=2/\m.aV p.Value=0)/\mngs m p=mngR m p:=by
 obtain⟨N,V⟩:=zdx h;have Z:=(zax V l.length (jE _)).2
 grind[sgF,zon,ze7,znv]
def ziG{l:List Sg}:∀(k:Nat)(x:Int),x∈yS l k->∃(j:Nat)(s:Sg),x=(j:Int)/\l[j]? =some s/\s.Kind=3
 |0,x,hx=>by simp[yS]at hx
 |k+1,x,hx=>by
  simp only[yS,jY]at hx;rcases hx with hx|hx
  ·exact ziG k x hx
  grind
def zgv(m:Mn)(l:List Sg)(i:Int):List Int:=match zd8 l i with|some p=>mngR m p|none=>[]
def mnsR(m:Mn)(l:List Sg):List (List Int):=(yS l l.length).map (zgv m l)
def zle{m:Mn}{l:List Sg}(h:ckD m l=0){x:Int}(hx:x∈yS l l.length):∃(j:Nat)(s p:Sg),x=((j+1:Nat):Int)/\l[j+1]? =some s/\s.Kind=3/\l[j]? =some p/\zd8 l x=some p:=by
 obtain⟨j,s,p,h1,V,U⟩:=zfg (zdx h).2 l.length (jE _) x hx;obtain⟨j',s',N,Z,T⟩:=ziG l.length x hx;have:j'=j+1:=by omega
 subst this;rw[V]at Z;injection Z with Z;subst Z;refine⟨j,s,p,h1,V,T,U,?_⟩;simp_all[zd8]
theorem zxn{m:Mn}{l:List Sg}(h:ckD m l=0):mnsD m l=mnsR m l:=by
 refine vC λx hx=>?_
 obtain⟨j,s,p,h1,V,U,T,Z⟩:=zle h hx;unfold mnAt zgv;rw[Z]
 grind[zld,mngR]
def ownV:List Int->Int->Int
 |[],_=>0
 |x::r,v=>if x=0\/x=v then x else ownV r v
def zbd(m:Mn)(l:List Sg)(i:Int)(p:Sg):Int:=
 if(mngR m p).length=1 then(mngR m p).headD 0 else if ziD l i>p.Value then ownV (mngR m p) p.Value else m.aV p.Value
def zct(m:Mn)(l:List Sg)(i:Int):Int:=match zd8 l i with|some p=>zbd m l i p|none=>0
def zqH(m:Mn)(l:List Sg):List Int:=(yS l l.length).map (zct m l)
theorem zmr{m:Mn}{l:List Sg}{i:Int}{p:Sg}(Z:ckM m=0)(h1:1<=p.Value)(V:p.Value<=8)(he:mngs m p=mngR m p):zbA m l i p=zbd m l i p:=by
 have U:=znu (m:=m) h1;have T:=p23 (m:=m) (v:=p.Value) Z
 grind[Mn.pV,zki,zbA,zbd,mngR,ownV]
theorem zth{m:Mn}{l:List Sg}(h:ckD m l=0):zi m l=zqH m l:=by
 refine vC λx hx=>?_
 obtain⟨j,s,p,h1,Z,V,U,T⟩:=zle h hx;obtain⟨_,_,q1,q2,_,q3⟩:=zld h Z V U;unfold zdk zct;rw[T];exact zmr (zdx h).1 q1 q2 q3
end
end Go.Rse
