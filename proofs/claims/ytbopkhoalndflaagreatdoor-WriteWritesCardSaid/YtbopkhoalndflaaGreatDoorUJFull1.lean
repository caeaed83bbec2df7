/-
  Walks.
-/
import Derived.Test.YtbopkhoalndflaaGreatDoorUJSpan1
set_option linter.all false
namespace Go.Rse
open Go Go.Proofs Go.Proofs.Tryz
section
attribute [local irreducible] Pur yA yC Ex X Fn Imp LeV LeB FnO It yH
def zbs(m:Mn)(v:Int):Nat->Int
 |0=>1
 |n+1=>zbs m v n*m.p (v+n)
def dbl:Nat->Int
 |0=>1
 |n+1=>dbl n*2
def yy(m:Mn)(v:Int):Tm:=⟨zbs m v (5-v).toNat,dbl (v-5).toNat⟩
def ziq{m:Mn}(h:ckM m=0)(v:Int)(V:1<=v):m.p v=2\/m.p v=3:=by
 rcases Int.lt_or_le 4 v with Z|Z
 ·exact .inl (zvk Z)
 ·have ho:m.Ok:=by
   unfold ckM at h;split at h
   ·assumption
   ·simp at h
  exact m.ok_iff.1 ho v V Z
def pw3:Nat->Int
 |0=>1
 |n+1=>pw3 n*3
def zk5{m:Mn}(h:ckM m=0){v:Int}(Z:1<=v):∀n,1<=zbs m v n/\zbs m v n<=pw3 n
 |0=>⟨vV _,vV _⟩
 |n+1=>by
  obtain⟨a,b⟩:=zk5 h Z n;simp only[zbs,pw3];rcases ziq h (v+n) (by omega)with e|e<;>rw[e]<;>omega
def zuO:∀n,n<=4->pw3 n<=81
 |0,_=>by decide
 |1,_=>by decide
 |2,_=>by decide
 |3,_=>by decide
 |4,_=>by decide
 |n+5,h=>by omega
def zuP:∀n,n<=3->1<=dbl n/\dbl n<=8
 |0,_=>by decide
 |1,_=>by decide
 |2,_=>by decide
 |3,_=>by decide
 |n+4,h=>by omega
def zp9{m:Mn}{v:Int}(h:ckMV m v=0):ckM m=0/\1<=v/\v<=8:=by
 have Z:=zoH h;refine⟨?_,Z⟩;unfold ckMV at h;unfold ckM;split at h
 ·rw[j4 (by assumption)]
 ·omega
def zdP(m:Mn)(j:Nat):List Int:=(([4,3,2,1]:List Int).take j).filter λv=>decide (m.p v=3)
def zpv(m:Mn)(j:Nat):(zdP m j).length<=4:=by
 unfold zdP;refine jR (wF _ _) ?_;simp;omega
def zkl(j:Nat)(h:j<4):([4,3,2,1]:List Int)[j]? =some (4-(j:Int)):=by
 have:j=0\/j=1\/j=2\/j=3:=by omega
 rcases this with rfl|rfl|rfl|rfl<;>rfl
def zpw{m:Mn}{j:Nat}(h:j<4)(Z:m.p (4-(j:Int))=3):zdP m j++[4-(j:Int)]=zdP m (j+1):=by
 unfold zdP;rw[jA,zkl j h,wR];simp[Z]
def zqa{m:Mn}{j:Nat}(h:j<4)(Z:¬m.p (4-(j:Int))=3):zdP m j=zdP m (j+1):=by
 unfold zdP;rw[jA,zkl j h,wR];simp[Z]
def zpx(m:Mn):zdP m 4=perfL m:=rfl
def zn3(m:Mn)(v:Int)(j:Nat):zbs m v j*m.p (v+(j:Int))=zbs m v (j+1):=rfl
def zuQ(j:Nat):dbl j*2=dbl (j+1):=rfl
def zvV(j:Nat):2*dbl j=dbl (j+1):=by rw[←zuQ];exact Int.mul_comm _ _
attribute [local irreducible] zbs dbl zdP perfL
def zl5(m:Mn)(v:Int)(hm:ckM m=0)(U:1<=v)(h8:v<=8):Fn prog 198 [mnA m,iv v] (tmA (yy m v)):=by
 have T:zbs m v 0=1:=by unfold zbs;rfl
 have Q:dbl 0=1:=by unfold dbl;rfl
 refine kC func198 ntmps198 (λg w d=>?_);apply ye;refine zZ ?_;refine zb ?_;apply yG;refine yL ?_;apply yf;apply ye;refine yL ?_;apply kA;refine ze (λj=>[(1,iv v),(2,.ptr 2 0 0 0),(4,.ptr 4 0 0 0),(5,iv (zbs m v j)),(6,iv 1),(7,iv (v+(j:Int)))]) (λj=>[(2,.box (mnE m) 23),(4,.box [iv 0,iv 0] 83)]) ((5-v).toNat) (λj N=>?_) (h0:=yd);refine gd ?_ ?_<;>intro J
 ·have I:j<(5-v).toNat:=by omega
  have H:=zk5 (m:=m) hm U j;have E:=zuO j (by omega);have hp:=ziq hm (v+j) (by omega);have Z:=zn3 m v j;have xT:0<=zbs m v j*m.p (v+(j:Int))/\zbs m v j*m.p (v+(j:Int))<=1000:=by rcases hp with e|e<;>rw[e]<;>omega
  refine gc (zkD m (v+(j:Int)) (by omega) (by omega)) ?_;refine yo (j+1)
 ·have V:j=(5-v).toNat:=by omega
  subst V;apply kK;apply yf;apply ye;refine yi ?_;apply kA;refine ze (λj=>[(1,iv v),(2,.ptr 2 0 0 0),(4,.ptr 4 0 0 0),(5,iv (zbs m v (5-v).toNat)),(6,iv (dbl j)),(8,iv (5+(j:Int)))]) (λj=>[(2,.box (mnE m) 23),(4,.box [iv 0,iv 0] 83)]) ((v-5).toNat) (λj N=>?_) (h0:=yd);refine gd ?_ ?_<;>intro x4
  ·have H:=zuP j (by omega);have Z:=zuQ j;refine gq ?_;refine yo (j+1)
  ·have V:j=(v-5).toNat:=by omega
   subst V;refine gq ?_;refine kH (.one (.cellA rfl rfl rfl rfl ty83 (kB ?_)));all_goals rfl
def zl6(m:Mn)(v:Int):Fn prog 143 [mnA m,iv v] (.tup [tmA (if ckMV m v=0 then yy m v else tmZ),iv (ckMV m v)]):=by
 refine kC func143 ntmps143 (λg w d=>?_);refine gc (zde m v) ?_;refine gd ?_ ?_<;>intro Z
 ·refine gq ?_;refine yD ty83 ?_ ?_;all_goals(first|rfl|(rw[j3 Z];done)|(rw[j3 Z];rfl)|(rw[j4 Z];done)|(rw[j4 Z];rfl)|exact zE Z)
 have V:=zp9 Z;refine gc (zl5 m v V.1 V.2.1 V.2.2) ?_;refine yD ty83 ?_ ?_;all_goals(first|rfl|(rw[j3 Z];done)|(rw[j3 Z];rfl)|(rw[j4 Z];done)|(rw[j4 Z];rfl)|exact zE Z)
def zf9(m:Mn)(v:Int):Fn prog 150 [mnA m,iv v] (.tup [tmA (if ckMV m v=0 then yy m v else tmZ),iv (ckMV m v)]):=by
 have Q:zbs m v 0=1:=by unfold zbs;rfl
 have N:dbl 0=1:=by unfold dbl;rfl
 refine kC func150 ntmps150 (λg w d=>?_);refine gc (zcG m v) ?_;refine gd ?_ ?_<;>intro Z
 ·refine gq ?_;refine yD ty83 ?_ ?_;all_goals(first|rfl|(rw[j3 Z];done)|(rw[j3 Z];rfl)|(rw[j4 Z];done)|(rw[j4 Z];rfl)|exact zE Z)
 have V:=zp9 Z;have hm:=V.1;have J:=V.2.1;have h8:=V.2.2;apply yl;apply ye;refine yL ?_;apply yf;apply ye;refine yL ?_;apply kA;refine ze (λj=>[(1,iv v),(2,.ptr 2 0 0 0),(4,.ptr 4 0 0 0),(5,iv 0),(7,iv (zbs m v j)),(8,iv 1),(9,iv (v+(j:Int)))]) (λj=>[(2,.box (mnE m) 23),(4,.box [iv 0,iv 0] 83)]) ((5-v).toNat) (λj I=>?_) (h0:=yd);refine gd ?_ ?_<;>intro H
 ·have E:j<(5-v).toNat:=by omega
  have hb:=zk5 (m:=m) hm J j;have xT:=zuO j (by omega);have hp:=ziq hm (v+j) (by omega);have U:=zn3 m v j;have x4:0<=zbs m v j*m.p (v+(j:Int))/\zbs m v j*m.p (v+(j:Int))<=1000:=by rcases hp with e|e<;>rw[e]<;>omega
  refine gc (y4 m (v+(j:Int))) ?_;refine yo (j+1)
 ·have T:j=(5-v).toNat:=by omega
  subst T;apply kK;apply yf;apply ye;refine yL ?_;apply kA;refine ze (λj=>[(1,iv v),(2,.ptr 2 0 0 0),(4,.ptr 4 0 0 0),(5,iv 0),(7,iv (zbs m v (5-v).toNat)),(8,iv (dbl j)),(10,iv (v-(j:Int)))]) (λj=>[(2,.box (mnE m) 23),(4,.box [iv 0,iv 0] 83)]) ((v-5).toNat) (λj I=>?_) (h0:=yd);refine gd ?_ ?_<;>intro x3
  ·have hb:=zuP j (by omega);have U:=zvV j;refine gq ?_;refine yo (j+1)
  ·have T:j=(v-5).toNat:=by omega
   subst T;refine gq ?_;refine yD ty83 ?_ ?_;all_goals(first|rfl|(rw[j3 Z];done)|(rw[j3 Z];rfl)|(rw[j4 Z];done)|(rw[j4 Z];rfl)|exact zE Z)
def zco(m:Mn):Fn prog 242 [mnA m] (.tup [yc (if ckM m=0 then perfL m else[]),iv (ckM m)]):=by
 have N:[]=zdP m 0:=by unfold zdP;rfl
 have V:=zpx m;refine kC func242 ntmps242 (λg w d=>?_);refine gc (zk m) ?_;refine gd ?_ ?_<;>intro Z
 ·apply ye;refine yq ?_;refine kE ?_;refine k8 (yd (ts:=[(2,yc []),(3,iv (ckM m))]) (hs:=[])) ?_;refine yh ?_ ?_;all_goals(first|(rw[j3 Z];done)|rfl|(rw[j4 Z,←V];rfl)|(rw[j4 Z,←V];done)|exact zE Z)
 apply yl;apply ye;refine yi ?_;iterate 2 apply yf
 refine kJ (yE intE 3 1 5 5 rfl rfl) ?_;apply yj;refine yi ?_;apply kA;refine ze (λj=>[(1,.ptr 1 0 0 0),(5,.own 5),(6,iv (4-(j:Int)))]) (λj=>[(1,.box (mnE m) 23),(5,.row intE (zdP m j) 3 1)]) 4 (λj H=>?_) (h0:=yd);refine gd ?_ ?_<;>intro J
 ·have Q:=zpv m j;refine gc (y4 m (4-(j:Int))) ?_;refine gd ?_ ?_<;>intro U
  ·have T:=zpw (by omega) U;refine gq ?_;refine yz intE [_] ?_;refine gq ?_;refine yo (j+1)
  ·have T:=zqa (by omega) U;refine gq ?_;refine yo (j+1)
 ·have I:j=4:=by omega
  subst I;apply kK;apply ye;refine yq ?_;refine kE ?_;refine k8 (k9 (k:=5) rfl) ?_;refine yh ?_ ?_;all_goals(first|(rw[j3 Z];done)|rfl|(rw[j4 Z,←V];rfl)|(rw[j4 Z,←V];done)|exact zE Z)
end
section
attribute [local irreducible] Pur yA yC Ex X Fn Imp LeV LeB FnO It yH
def Mn.pl(m:Mn):Bool:=decide (m.Max=2)&&decide (m.Mod=2)&&decide (m.Tem=2)&&decide (m.Pro=2)
def durR(m:Mn):Nat->Int->Tm
 |0,v=>if m.pl=true then mulV (yy m v) ⟨2,3⟩else yy m v
 |n+1,v=>if m.pl=true then mulV (yy m v) ⟨2,3⟩else if m.p v=3 then mulV (yy m v) ⟨2,3⟩else mulV (durR m n (v+1)) ⟨2,1⟩
def durT(m:Mn)(v:Int):Tm:=durR m (5-v).toNat v
def zn4{m:Mn}{v:Int}(h:m.pl=true):durT m v=mulV (yy m v) ⟨2,3⟩:=by
 unfold durT;cases(5-v).toNat<;>simp[durR,h]
def zl7{m:Mn}{v:Int}(h:m.pl=false)(Z:5<=v):durT m v=yy m v:=by
 unfold durT;rw[show(5-v).toNat=0 by omega];simp[durR,h]
def zqb{m:Mn}{v:Int}(h:m.pl=false)(V:v<5)(Z:m.p v=3):durT m v=mulV (yy m v) ⟨2,3⟩:=by
 unfold durT;rw[show(5-v).toNat=(4-v).toNat+1 by omega];simp[durR,h,Z]
def zqc{m:Mn}{v:Int}(h:m.pl=false)(V:v<5)(Z:¬m.p v=3):durT m v=mulV (durT m (v+1)) ⟨2,1⟩:=by
 unfold durT;rw[show(5-v).toNat=(5-(v+1)).toNat+1 by omega];simp[durR,h,Z]
def zaW{m:Mn}{v:Int}(hm:ckM m=0)(Z:1<=v)(V:v<=8):Fn prog 143 [mnA m,iv v] (.tup [tmA (yy m v),iv 0]):=by
 have h:=zl6 m v
 have h0:ckMV m v=0:=by
  unfold ckM at hm;unfold ckMV;split at hm
  ·rw[j4 (by assumption),j4 ⟨Z,V⟩]
  ·simp at hm
 rw[h0,j4 rfl]at h;exact h
def zfR{m:Mn}{v:Int}(hm:ckM m=0)(Z:1<=v)(V:v<=8):Fn prog 177 [mnA m,iv v] (.tup [iv (m.p v),iv 0]):=by
 have h:=zeh m v
 have h0:ckMV m v=0:=by
  unfold ckM at hm;unfold ckMV;split at hm
  ·rw[j4 (by assumption),j4 ⟨Z,V⟩]
  ·simp at hm
 rw[h0,j4 rfl]at h;exact h
attribute [local irreducible] yy durT mulV
def zeK(t:Tm):Fn prog 296 [tmA t] (tmA (mulV t ⟨2,3⟩)):=by
 refine kC func296 ntmps296 (λg w d=>?_);refine gc (zeg t ⟨2,3⟩) ?_;refine kH (.one (.cellA rfl rfl rfl rfl ty83 (kB ?_)));all_goals rfl
def zj1(m:Mn)(hm:ckM m=0)(v:Int)(Q:1<=v)(N:v<=8):FnO prog 295 [iv v,.ptr 2000000 0 0 0,.ptr 2000001 0 0 0,.ptr 2000002 0 0 0] [(2000000,.box (mnE m) 23),(2000001,.box [.bool m.pl] 4),(2000002,.box [.fn 295 [.ptr 2000000 0 0 0,.ptr 2000001 0 0 0,.ptr 2000002 0 0 0]] 324)] [2000000,2000001,2000002] (tmA (durT m v)) [(2000000,.box (mnE m) 23),(2000001,.box [.bool m.pl] 4),(2000002,.box [.fn 295 [.ptr 2000000 0 0 0,.ptr 2000001 0 0 0,.ptr 2000002 0 0 0]] 324)]:=by
 induction hn:(5-v).toNat using Nat.strongRecOn generalizing v
 rename_i n ih;refine kW (ts:=[(0,iv v),(1,.ptr 2000000 0 0 0),(2,.ptr 2000001 0 0 0),(3,.ptr 2000002 0 0 0)]) (rv:=[.cell 5 83]) (n:=47) (cs:=[.ptr 2000000 0 0 0,.ptr 2000001 0 0 0,.ptr 2000002 0 0 0]) (by kernel_rfl) func295 rfl ntmps295 rfl rfl (by simp) rfl rfl rfl rfl (λg w d vs=>?_);refine gc (zaW hm Q N) ?_;refine gc (zfR hm Q N) ?_;refine gd ?_ ?_<;>intro Z
 ·have V:=zn4 (v:=v) Z;refine gq ?_;refine yM (zeK _) ?_;refine kI ?_;apply kL;refine kE ?_;refine zkU.mk [(5,.ptr 5 0 0 0)] [(5,.box (tmE (mulV (yy m v) ⟨2,3⟩)) 83)] (.inr rfl) (.one (.cellA rfl rfl rfl rfl ty83 (kB ?_)));all_goals rw[V]
 refine gd ?_ ?_<;>intro U
 ·have V:=zl7 Z U;apply ye;refine ya ?_;refine kI ?_;apply kL;refine kE ?_;refine zkU.mk [(5,.ptr 5 0 0 0)] [(5,.box (tmE (yy m v)) 83)] (.inr rfl) (.one (.cellA rfl rfl rfl rfl ty83 (kB ?_)));all_goals rw[V]
 refine gd ?_ ?_<;>intro T
 ·have V:=zqb Z U T;refine gq ?_;refine yM (zeK _) ?_;refine kI ?_;apply kL;refine kE ?_;refine zkU.mk [(5,.ptr 5 0 0 0)] [(5,.box (tmE (mulV (yy m v) ⟨2,3⟩)) 83)] (.inr rfl) (.one (.cellA rfl rfl rfl rfl ty83 (kB ?_)));all_goals rw[V]
 have V:=zqc Z U T;refine gq ?_;refine zai [(2000000,2000000),(2000001,2000001),(2000002,2000002)] (ih (5-(v+1)).toNat (by omega) (v+1) (by omega) (by omega) rfl) ?_;refine gq ?_;refine yM (zeg (durT m (v+1)) ⟨2,1⟩) ?_;iterate 3 refine ya ?_
 refine zb ?_;refine kI ?_;refine ya ?_;apply yG;refine ya ?_;refine kI ?_;apply kL;refine kE ?_;refine zkU.mk [(5,.ptr 5 0 0 0)] [(5,.box (tmE (mulV (durT m (v+1)) ⟨2,1⟩)) 83)] (.inr rfl) (.one (.cellA rfl rfl rfl rfl ty83 (kB ?_)));all_goals rw[V]
def zhR(m:Mn)(hm:ckM m=0)(v:Int)(Z:1<=v)(V:v<=8):Fn prog 253 [mnA m,iv v] (tmA (durT m v)):=by
 have U:(decide (m.Max=2)&&decide (m.Mod=2)&&decide (m.Tem=2)&&decide (m.Pro=2))=m.pl:=by unfold Mn.pl;rfl
 refine kC func253 ntmps253 (λg w d=>?_);apply ye;refine zZ ?_;refine zb ?_;apply yG;iterate 3 refine ya ?_
 refine kG 3 ?_;refine yn ?_;iterate 3 refine kF ?_
 iterate 2 refine yn ?_
 iterate 3 refine kF ?_
 iterate 2 refine yn ?_
 iterate 3 refine kF ?_
 refine ge ?_;refine zai [(2000000,2),(2000001,5),(2000002,6)] (zj1 m hm v Z V) ?_;refine gq ?_;refine kH (.one (.cellA rfl rfl rfl rfl ty83 (kB ?_)));all_goals rfl
def zl8(m:Mn)(v:Int):Fn prog 267 [mnA m,iv v] (.tup [tmA (if ckMV m v=0 then durT m v else tmZ),iv (ckMV m v)]):=by
 refine kC func267 ntmps267 (λg w d=>?_);refine gc (za1 m) ?_;refine gd ?_ ?_<;>intro Z
 ·have hE:ckMV m v=ckM m:=by unfold ckMV ckM at*;split<;>simp_all
  refine gq ?_;refine yD ty83 ?_ ?_;all_goals(first|exact zE hE|(rw[hE,j4 rfl];done)|(rw[hE,j4 rfl];rfl)|(rw[hE,j3 Z];rfl))
 apply yl;apply yf;apply ye;iterate 2 refine ya ?_
 refine kG 2 ?_;refine yn ?_;iterate 2 refine kF ?_
 refine gf ?_ ?_<;>intro V
 ·have hE:ckMV m v=2:=by unfold ckM at Z;unfold ckMV;split at Z<;>simp_all;omega
  refine gq ?_;refine yD ty83 ?_ ?_;all_goals(first|exact zE hE|(rw[hE,j4 rfl];done)|(rw[hE,j4 rfl];rfl)|(rw[hE,j3 Z];rfl))
 have hE:ckMV m v=0:=by unfold ckM at Z;unfold ckMV;split at Z<;>simp_all<;>omega
 refine gc (zhR m Z v (by omega) (by omega)) ?_;refine yD ty83 ?_ ?_;all_goals(first|exact zE hE|(rw[hE,j4 rfl];done)|(rw[hE,j4 rfl];rfl)|(rw[hE,j3 Z];rfl))
end
section
def zgF(f:Mn->Int->Bool):Bool:=([2,3]:List Int).all λa=>([2,3]:List Int).all λb=>([2,3]:List Int).all λc=>([2,3]:List Int).all λe=>([1,2,3,4,5,6,7,8]:List Int).all λv=>f ⟨a,b,c,e⟩ v
theorem zcd{f:Mn->Int->Bool}(h:zgF f=true){m:Mn}{v:Int}(hm:ckM m=0)(V:1<=v)(U:v<=8):f m v=true:=by
 have ho:m.Ok:=by
  unfold ckM at hm;split at hm
  ·assumption
  ·simp at hm
 obtain⟨a,b,c,e⟩:=m;have hv:v∈([1,2,3,4,5,6,7,8]:List Int):=by simp;omega
 have Z:∀x:Int,two3 x->x∈([2,3]:List Int):=λx hx=>by simpa[two3]using hx
 unfold zgF at h;exact jF.1 (jF.1 (jF.1 (jF.1 (jF.1 h a (Z _ ho.1)) b (Z _ ho.2.1)) c (Z _ ho.2.2.1)) e (Z _ ho.2.2.2)) v hv
def zuR(m:Mn)(v:Int):Bool:=
 decide (mulV (yy m v) ⟨2,3⟩=tmkT ((yy m v).N*2) ((yy m v).D*3))&&decide (mulV (durT m v) ⟨2,1⟩=tmkT ((durT m v).N*2) ((durT m v).D*1))&&
 decide (ckT (yy m v)=0)&&decide (ckT (durT m v)=0)&&decide ((yy m v).N<=81)&&decide ((yy m v).D<=8)&&decide ((durT m v).N<=81)&&decide ((durT m v).D<=24)&&decide (1<=(yy m v).N)&&decide (1<=(durT m v).N)
def zpy:zgF zuR=true:=by kernel_rfl
def zfi{m:Mn}{v:Int}(hm:ckM m=0)(Z:1<=v)(V:v<=8):mulV (yy m v) ⟨2,3⟩=tmkT ((yy m v).N*2) ((yy m v).D*3)/\mulV (durT m v) ⟨2,1⟩=tmkT ((durT m v).N*2) ((durT m v).D*1)∧
 ckT (yy m v)=0/\ckT (durT m v)=0/\(yy m v).N<=81/\(yy m v).D<=8/\(durT m v).N<=81/\(durT m v).D<=24/\1<=(yy m v).N/\1<=(durT m v).N:=by
 have h:=zcd zpy hm Z V;unfold zuR at h;simp only[j7,w9]at h;obtain⟨⟨⟨⟨⟨⟨⟨⟨⟨a,b⟩,c⟩,d⟩,e⟩,f⟩,g⟩,i⟩,j⟩,k⟩:=h;exact⟨a,b,c,d,e,f,g,i,j,k⟩
def zl9(m:Mn)(hm:ckM m=0):((perfL m).length:Int)=0↔m.pl=true:=by
 have h:∀v:Int,1<=v->m.p v=2\/m.p v=3:=ziq hm;have a:=h 1 (by omega);have b:=h 2 (by omega);have c:=h 3 (by omega);have e:=h 4 (by omega);have e1:m.p 1=m.Max:=rfl;have e2:m.p 2=m.Mod:=rfl;have e3:m.p 3=m.Tem:=rfl;have e4:m.p 4=m.Pro:=rfl;unfold perfL Mn.pl;rw[e1]at a;rw[e2]at b;rw[e3]at c;rw[e4]at e;simp only[u0,e1,e2,e3,e4,List.filter_nil];rcases a with a|a<;>rcases b with b|b<;>rcases c with c|c<;>rcases e with e|e<;>simp[a,b,c,e]
end
section
attribute [local irreducible] Pur yA yC Ex X Fn Imp LeV LeB FnO It yH
def znh{m:Mn}{v:Int}(hm:ckM m=0)(Z:1<=v)(V:v<=8):ckMV m v=0:=by
 unfold ckM at hm;unfold ckMV;split at hm
 ·rw[j4 (by assumption),j4 ⟨Z,V⟩]
 ·simp at hm
def zM{m:Mn}{v:Int}(hm:ckM m=0)(Z:1<=v)(V:v<=8):Fn prog 150 [mnA m,iv v] (.tup [tmA (yy m v),iv 0]):=by
 have h:=zf9 m v;rw[znh hm Z V,j4 rfl]at h;exact h
def zet{m:Mn}(hm:ckM m=0):Fn prog 242 [mnA m] (.tup [yc (perfL m),iv 0]):=by
 have h:=zco m;rw[hm,j4 rfl]at h;exact h
def zma{m:Mn}(hm:ckM m=0)(h:¬((perfL m).length:Int)=0):m.pl=false:=by
 cases Z:m.pl with
 |false=>rfl
 |true=>exact absurd ((zl9 m hm).2 Z) h
def zvW{m:Mn}{v:Int}(hm:ckM m=0)(V:1<=v)(U:v<=8)(h:((perfL m).length:Int)=0\/(v<5/\m.p v=3)):durT m v=tmkT ((yy m v).N*2) ((yy m v).D*3):=by
 rw[←(zfi hm V U).1];cases Z:m.pl with
 |true=>exact zn4 Z
 |false=>
  rcases h with h|h
  ·rw[(zl9 m hm).1 h]at Z;cases Z
  ·exact zqb Z h.1 h.2
def zvX{m:Mn}{v:Int}(hm:ckM m=0)(T:1<=v)(Z:m.pl=false)(V:v<5)(U:¬m.p v=3):durT m v=tmkT ((durT m (v+1)).N*2) ((durT m (v+1)).D*1):=by
 rw[←(zfi hm (show 1<=v+1 by omega) (by omega)).2.1];exact zqc Z V U
def clr(s:Sg):Bool:=decide (s.Kind=1)&&s.Color
def zdv(l:List Sg)(by':Int):Nat->Int->Option Sg
 |0,_=>none
 |n+1,i=>if 0<=i/\i<(l.length:Int)then(if(l.getD i.toNat default).Kind=3 then zdv l by' n (i+by')else some (l.getD i.toNat default))else none
def zdw(l:List Sg)(by' i:Int):Option Sg:=zdv l by' (l.length+2) i
def zkm{l:List Sg}{by':Int}{n:Nat}{i:Int}(h:¬(0<=i/\i<(l.length:Int))):zdv l by' n i=none:=by
 cases n with
 |zero=>rfl
 |succ n=>unfold zdv;rw[j3 h]
def zkn{l:List Sg}{by':Int}{n:Nat}{i:Int}(h:0<=i/\i<(l.length:Int))(Z:¬(l.getD i.toNat default).Kind=3)(V:0<n):zdv l by' n i=some (l.getD i.toNat default):=by
 cases n with
 |zero=>omega
 |succ n=>unfold zdv;rw[j4 h,j3 Z]
def zmb{l:List Sg}{by':Int}{n:Nat}{i:Int}(h:0<=i/\i<(l.length:Int))(Z:(l.getD i.toNat default).Kind=3)(V:0<n):zdv l by' n i=zdv l by' (n-1) (i+by'):=by
 cases n with
 |zero=>omega
 |succ n=>conv=>lhs;unfold zdv
          rw[j4 h,j4 Z];rfl
def sgZ0:Sg:=⟨0,0,0,0,false,0,false,false,⟨0,0,0,0⟩,false,0,0,0,0⟩
def frB:Option Sg->Bool
 |some s=>!clr s
 |none=>true
def zn5:Option Sg->Sg
 |some s=>s
 |none=>sgZ0
def zaH(l:List Sg)(i:Int):Bool:=decide (i+1<(l.length:Int))&&clr (l.getD i.toNat default)&&decide ((l.getD i.toNat default).Value=4)&&clr (l.getD (i+1).toNat default)&&decide ((l.getD (i+1).toNat default).Value=5)&&
 !(decide (i+2<(l.length:Int))&&decide ((l.getD (i+2).toNat default).Kind=3))&&frB (zdw l (-1) (i-1))&&frB (zdw l 1 (i+2))
attribute [local irreducible] yy durT mulV tmkT perfL zdv
def zcy(t:Tm)(n q:Int)(Z:0<=t.N*n/\t.N*n<=9223372036854775807)(V:0<=t.D*q/\t.D*q<=9223372036854775807):Fn prog 308 [tmA t,iv n,iv q] (tmA (tmkT (t.N*n) (t.D*q))):=by
 refine kC func308 ntmps308 (λg w d=>?_);refine gc (zdb (t.N*n) (t.D*q) (by omega) (by omega)) ?_;refine kH (.one (.cellA rfl rfl rfl rfl ty83 (kB ?_)));all_goals rfl
def zdx(m:Mn)(hm:ckM m=0)(v:Int)(T:1<=v)(Q:v<=8):Fn prog 273 [mnA m,iv v] (tmA (durT m v)):=by
 induction hn:(5-v).toNat using Nat.strongRecOn generalizing v
 rename_i n ih;have hf:=zfi hm T Q;have J:=zap hf.2.2.1;refine kC func273 ntmps273 (λg w d=>?_);refine gc (zM hm T Q) ?_;refine yM (zet hm) ?_;iterate 2 refine ya ?_
 refine yq ?_;apply yf;apply kA;apply ye;iterate 3 refine ya ?_
 refine kG 3 ?_;refine gq ?_;refine kQ (y4 m v) ?_;iterate 2 refine kF ?_
 refine gf ?_ ?_<;>intro Z
 ·have V:=zvW hm T Q Z;refine gc (zcy (yy m v) 2 3 (by omega) (by omega)) ?_;refine kH (.one (.cellA rfl rfl rfl rfl ty83 (kB ?_)));all_goals exact zE V
 refine gd ?_ ?_<;>intro U
 ·have V:=zl7 (zma hm Z.1) U;refine gq ?_;refine kH (.one (.cellA rfl rfl rfl rfl ty83 (kB ?_)));all_goals exact zE V
 have V:=zvX hm T (zma hm Z.1) U (by omega);have N:=zfi hm (show 1<=v+1 by omega) (by omega);have I:=zap N.2.2.2.1;refine gq ?_;refine yM (ih (5-(v+1)).toNat (by omega) (v+1) (by omega) (by omega) rfl) ?_;refine gc (zcy (durT m (v+1)) 2 1 (by omega) (by omega)) ?_;refine kH (.one (.cellA rfl rfl rfl rfl ty83 (kB ?_)));all_goals exact zE V
def zgG(m:Mn)(v:Int):Fn prog 228 [mnA m,iv v] (.tup [tmA (if ckMV m v=0 then durT m v else tmZ),iv (ckMV m v)]):=by
 refine kC func228 ntmps228 (λg w d=>?_);refine gc (zk m) ?_;refine gd ?_ ?_<;>intro Z
 ·have hE:ckMV m v=ckM m:=by unfold ckMV ckM at*;split<;>simp_all
  refine gq ?_;refine yD ty83 ?_ ?_;all_goals(first|exact zE hE|(rw[hE,j4 rfl];done)|(rw[hE,j4 rfl];rfl)|(rw[hE,j3 Z];rfl))
 apply yl;apply yf;apply ye;iterate 2 refine ya ?_
 refine kG 2 ?_;refine yn ?_;iterate 2 refine kF ?_
 refine gf ?_ ?_<;>intro V
 ·have hE:ckMV m v=2:=by unfold ckM at Z;unfold ckMV;split at Z<;>simp_all;omega
  refine gq ?_;refine yD ty83 ?_ ?_;all_goals(first|exact zE hE|(rw[hE,j4 rfl];done)|(rw[hE,j4 rfl];rfl)|(rw[hE,j3 Z];rfl))
 have hE:ckMV m v=0:=by unfold ckM at Z;unfold ckMV;split at Z<;>simp_all<;>omega
 refine gc (zdx m Z v (by omega) (by omega)) ?_;refine yD ty83 ?_ ?_;all_goals(first|exact zE hE|(rw[hE,j4 rfl];done)|(rw[hE,j4 rfl];rfl)|(rw[hE,j3 Z];rfl))
def zbg(s:Sg):Fn prog 252 [sgA s] (.bool (clr s)):=by
 refine kC func252 ntmps252 (λg w d=>?_);apply ye;refine zZ ?_;refine ya ?_;apply yG;iterate 3 refine ya ?_
 refine kG 3 ?_;refine yn ?_;iterate 2 refine kF ?_
 refine ge ?_;all_goals rfl
def zx(s:Sg):Fn prog 285 [sgA s] (.bool (clr s)):=by
 refine kC func285 ntmps285 (λg w d=>?_);apply ye;refine zZ ?_;refine ya ?_;apply yG;iterate 3 refine ya ?_
 refine kG 3 ?_;refine yn ?_;iterate 2 refine kF ?_
 refine ge ?_;all_goals rfl
def zgH(l:List Sg)(hl:l.length<=4000000000)(i b:Int)(T:b=1\/b=-1)(h0:-2<=i)(Q:i<=(l.length:Int)+2)(N:b=-1->i<=(l.length:Int)+1):Fn prog 345 [sgsA l,iv i,iv b] (.bool (frB (zdw l b i))):=by
 refine kC func345 ntmps345 (λg w d=>?_);refine gq ?_;refine zcw (ι:=Nat×Int) (λ(p:Nat×Int)=>[(0,sgsA l),(1,iv p.2),(2,iv b)]) (λ(p:Nat×Int)=>[]) (λ(p:Nat×Int)=>zdv l b (l.length+2) i=zdv l b p.1 p.2/\((b=1/\(l.length:Int)-p.2<=(p.1:Int))\/(b=-1/\p.2+1<=(p.1:Int)))/\-3<=p.2/\p.2<=(l.length:Int)+3) (λ(p:Nat×Int)=>p.1) (l.length+2,i) (λp U=>?_) (hJ:=by exact⟨rfl,by dsimp only;omega,by dsimp only;omega,by dsimp only;omega⟩);obtain⟨n,j⟩:=p;obtain⟨k1,k2,k3,k4⟩:=U;dsimp only at*
 apply yf;apply ye;iterate 2 refine ya ?_
 refine kG 2 ?_;refine yn ?_;iterate 4 refine kF ?_
 refine gf ?_ ?_<;>intro Z
 ·refine gd ?_ ?_<;>intro V
  ·refine gc (zbg _) ?_;all_goals(unfold zdw;rw[k1,zkn Z V (by omega)];rfl)
  refine gq ?_;refine yo ((n-1,j+b)) (hJ:=by exact⟨by rw[k1,zmb Z V (by omega)],by dsimp only;omega,by dsimp only;omega,by dsimp only;omega⟩) (hm:=by dsimp only;omega)
 ·refine gq ?_;all_goals(unfold zdw;rw[k1,zkm (by omega)];rfl)
def zcX(l:List Sg)(hl:l.length<=4000000000)(i b:Int)(Q:b=1\/b=-1)(h0:-2<=i)(N:i<=(l.length:Int)+2)(J:b=-1->i<=(l.length:Int)+1):Fn prog 339 [sgsA l,iv i,iv b] (.tup [sgA (zn5 (zdw l b i)),.bool (zdw l b i).isSome]):=by
 refine kC func339 ntmps339 (λg w d=>?_);refine gq ?_;refine zcw (ι:=Nat×Int) (λ(p:Nat×Int)=>[(0,sgsA l),(1,iv p.2),(2,iv b),(6,.ptr 6 0 0 0)]) (λ(p:Nat×Int)=>[(6,.box (sgE sgZ0) 90)]) (λ(p:Nat×Int)=>zdv l b (l.length+2) i=zdv l b p.1 p.2/\((b=1/\(l.length:Int)-p.2<=(p.1:Int))\/(b=-1/\p.2+1<=(p.1:Int)))/\-3<=p.2/\p.2<=(l.length:Int)+3) (λ(p:Nat×Int)=>p.1) (l.length+2,i) (λp T=>?_) (hJ:=by exact⟨rfl,by dsimp only;omega,by dsimp only;omega,by dsimp only;omega⟩);obtain⟨n,j⟩:=p;obtain⟨k1,k2,k3,k4⟩:=T;dsimp only at*
 apply yf;apply ye;iterate 2 refine ya ?_
 refine kG 2 ?_;refine yn ?_;iterate 4 refine kF ?_
 refine gf ?_ ?_<;>intro Z
 ·refine gd ?_ ?_<;>intro V
  ·have U:zdw l b i=some (l.getD j.toNat default):=by unfold zdw;rw[k1,zkn Z V (by omega)]
   refine gq ?_;refine yD ty90 ?_ ?_;all_goals exact zE U
  refine gq ?_;refine yo ((n-1,j+b)) (hJ:=by exact⟨by rw[k1,zmb Z V (by omega)],by dsimp only;omega,by dsimp only;omega,by dsimp only;omega⟩) (hm:=by dsimp only;omega)
 ·have U:zdw l b i=none:=by unfold zdw;rw[k1,zkm (by omega)]
  refine gq ?_;refine yD ty90 ?_ ?_;all_goals exact zE U
end
end Go.Rse
