/-
  Walks.
-/
import Derived.Test.YtbopkhoalndflaaGreatDoorYJSpan1
set_option linter.all false
namespace Go.Rse
open Go Go.Proofs Go.Proofs.Tryz
section
attribute [local irreducible] Pur yA yC Ex X Fn Imp LeV LeB FnO It yH
def zbm(m:Mn)(v:Int):Nat->Int
 |0=>1
 |n+1=>zbm m v n*m.p (v+n)
def dbl:Nat->Int
 |0=>1
 |n+1=>dbl n*2
def yx(m:Mn)(v:Int):Tm:=⟨zbm m v (5-v).toNat,dbl (v-5).toNat⟩
def zhU{m:Mn}(h:ckM m=0)(v:Int)(V:1<=v):m.p v=2\/m.p v=3:=by
 rcases Int.lt_or_le 4 v with Z|Z
 ·exact .inl (zqL Z)
 ·have ho:m.Ok:=by
   unfold ckM at h;split at h
   ·assumption
   ·simp at h
  exact m.ok_iff.1 ho v V Z
def pw3:Nat->Int
 |0=>1
 |n+1=>pw3 n*3
def zku{m:Mn}(h:ckM m=0){v:Int}(Z:1<=v):∀n,1<=zbm m v n/\zbm m v n<=pw3 n
 |0=>⟨x8 _,x8 _⟩
 |n+1=>by
  obtain⟨a,b⟩:=zku h Z n;simp only[zbm,pw3];rcases zhU h (v+n) (by omega)with e|e<;>rw[e]<;>omega
def zuo:∀n,n<=4->pw3 n<=81
 |0,_=>by decide
 |1,_=>by decide
 |2,_=>by decide
 |3,_=>by decide
 |4,_=>by decide
 |n+5,h=>by omega
def zup:∀n,n<=3->1<=dbl n/\dbl n<=8
 |0,_=>by decide
 |1,_=>by decide
 |2,_=>by decide
 |3,_=>by decide
 |n+4,h=>by omega
def zpw{m:Mn}{v:Int}(h:ckMV m v=0):ckM m=0/\1<=v/\v<=8:=by
 have Z:=zn7 h;refine⟨?_,Z⟩;unfold ckMV at h;unfold ckM;split at h
 ·rw[j3 (by assumption)]
 ·omega
def zdu(m:Mn)(j:Nat):List Int:=(([4,3,2,1]:List Int).take j).filter λv=>decide (m.p v=3)
def zoQ(m:Mn)(j:Nat):(zdu m j).length<=4:=by
 unfold zdu;refine jQ (wS _ _) ?_;simp;omega
def zjJ(j:Nat)(h:j<4):([4,3,2,1]:List Int)[j]? =some (4-(j:Int)):=by
 have:j=0\/j=1\/j=2\/j=3:=by omega
 rcases this with rfl|rfl|rfl|rfl<;>rfl
def zoR{m:Mn}{j:Nat}(h:j<4)(Z:m.p (4-(j:Int))=3):zdu m j++[4-(j:Int)]=zdu m (j+1):=by
 unfold zdu;rw[jF,zjJ j h,wX];simp[Z]
def zpx{m:Mn}{j:Nat}(h:j<4)(Z:¬m.p (4-(j:Int))=3):zdu m j=zdu m (j+1):=by
 unfold zdu;rw[jF,zjJ j h,wX];simp[Z]
def zoS(m:Mn):zdu m 4=perfL m:=rfl
def znt(m:Mn)(v:Int)(j:Nat):zbm m v j*m.p (v+(j:Int))=zbm m v (j+1):=rfl
def zuq(j:Nat):dbl j*2=dbl (j+1):=rfl
def zvv(j:Nat):2*dbl j=dbl (j+1):=by rw[←zuq];exact Int.mul_comm _ _
attribute [local irreducible] zbm dbl zdu perfL
def zlE(m:Mn)(v:Int)(hm:ckM m=0)(U:1<=v)(h8:v<=8):Fn prog 198 [mnA m,iv v] (tmA (yx m v)):=by
 have T:zbm m v 0=1:=by unfold zbm;rfl
 have Q:dbl 0=1:=by unfold dbl;rfl
 refine kF func198 ntmps198 (λg w d=>?_);apply ye;refine zH ?_;refine zk ?_;apply yG;refine yO ?_;apply yf;apply ye;refine yO ?_;apply kB;refine zu (λj=>[(1,iv v),(2,.ptr 2 0 0 0),(4,.ptr 4 0 0 0),(5,iv (zbm m v j)),(6,iv 1),(7,iv (v+(j:Int)))]) (λj=>[(2,.box (mnE m) 23),(4,.box [iv 0,iv 0] 83)]) ((5-v).toNat) (λj N=>?_) (h0:=yd);refine gd ?_ ?_<;>intro J
 ·have I:j<(5-v).toNat:=by omega
  have H:=zku (m:=m) hm U j;have G:=zuo j (by omega);have E:=zhU hm (v+j) (by omega);have Z:=znt m v j;have xT:0<=zbm m v j*m.p (v+(j:Int))/\zbm m v j*m.p (v+(j:Int))<=1000:=by rcases E with e|e<;>rw[e]<;>omega
  refine gc (zj1 m (v+(j:Int)) (by omega) (by omega)) ?_;refine yz (j+1)
 ·have V:j=(5-v).toNat:=by omega
  subst V;apply kO;apply yf;apply ye;refine yh ?_;apply kB;refine zu (λj=>[(1,iv v),(2,.ptr 2 0 0 0),(4,.ptr 4 0 0 0),(5,iv (zbm m v (5-v).toNat)),(6,iv (dbl j)),(8,iv (5+(j:Int)))]) (λj=>[(2,.box (mnE m) 23),(4,.box [iv 0,iv 0] 83)]) ((v-5).toNat) (λj N=>?_) (h0:=yd);refine gd ?_ ?_<;>intro x4
  ·have H:=zup j (by omega);have Z:=zuq j;refine gq ?_;refine yz (j+1)
  ·have V:j=(v-5).toNat:=by omega
   subst V;refine gq ?_;refine kL (.one (.cellA rfl rfl rfl rfl ty83 (kC ?_)));all_goals rfl
def zlF(m:Mn)(v:Int):Fn prog 143 [mnA m,iv v] (.tup [tmA (if ckMV m v=0 then yx m v else tmZ),iv (ckMV m v)]):=by
 refine kF func143 ntmps143 (λg w d=>?_);refine gc (zcU m v) ?_;refine gd ?_ ?_<;>intro Z
 ·refine gq ?_;refine yr ty83 ?_ ?_;all_goals(first|rfl|(rw[j4 Z];done)|(rw[j4 Z];rfl)|(rw[j3 Z];done)|(rw[j3 Z];rfl)|exact zE Z)
 have V:=zpw Z;refine gc (zlE m v V.1 V.2.1 V.2.2) ?_;refine yr ty83 ?_ ?_;all_goals(first|rfl|(rw[j4 Z];done)|(rw[j4 Z];rfl)|(rw[j3 Z];done)|(rw[j3 Z];rfl)|exact zE Z)
def zfO(m:Mn)(v:Int):Fn prog 150 [mnA m,iv v] (.tup [tmA (if ckMV m v=0 then yx m v else tmZ),iv (ckMV m v)]):=by
 have Q:zbm m v 0=1:=by unfold zbm;rfl
 have N:dbl 0=1:=by unfold dbl;rfl
 refine kF func150 ntmps150 (λg w d=>?_);refine gc (zcm m v) ?_;refine gd ?_ ?_<;>intro Z
 ·refine gq ?_;refine yr ty83 ?_ ?_;all_goals(first|rfl|(rw[j4 Z];done)|(rw[j4 Z];rfl)|(rw[j3 Z];done)|(rw[j3 Z];rfl)|exact zE Z)
 have V:=zpw Z;have hm:=V.1;have J:=V.2.1;have h8:=V.2.2;apply yk;apply ye;refine yO ?_;apply yf;apply ye;refine yO ?_;apply kB;refine zu (λj=>[(1,iv v),(2,.ptr 2 0 0 0),(4,.ptr 4 0 0 0),(5,iv 0),(7,iv (zbm m v j)),(8,iv 1),(9,iv (v+(j:Int)))]) (λj=>[(2,.box (mnE m) 23),(4,.box [iv 0,iv 0] 83)]) ((5-v).toNat) (λj I=>?_) (h0:=yd);refine gd ?_ ?_<;>intro H
 ·have G:j<(5-v).toNat:=by omega
  have E:=zku (m:=m) hm J j;have xT:=zuo j (by omega);have hp:=zhU hm (v+j) (by omega);have U:=znt m v j;have x4:0<=zbm m v j*m.p (v+(j:Int))/\zbm m v j*m.p (v+(j:Int))<=1000:=by rcases hp with e|e<;>rw[e]<;>omega
  refine gc (yX m (v+(j:Int))) ?_;refine yz (j+1)
 ·have T:j=(5-v).toNat:=by omega
  subst T;apply kO;apply yf;apply ye;refine yO ?_;apply kB;refine zu (λj=>[(1,iv v),(2,.ptr 2 0 0 0),(4,.ptr 4 0 0 0),(5,iv 0),(7,iv (zbm m v (5-v).toNat)),(8,iv (dbl j)),(10,iv (v-(j:Int)))]) (λj=>[(2,.box (mnE m) 23),(4,.box [iv 0,iv 0] 83)]) ((v-5).toNat) (λj I=>?_) (h0:=yd);refine gd ?_ ?_<;>intro x3
  ·have E:=zup j (by omega);have U:=zvv j;refine gq ?_;refine yz (j+1)
  ·have T:j=(v-5).toNat:=by omega
   subst T;refine gq ?_;refine yr ty83 ?_ ?_;all_goals(first|rfl|(rw[j4 Z];done)|(rw[j4 Z];rfl)|(rw[j3 Z];done)|(rw[j3 Z];rfl)|exact zE Z)
def zb6(m:Mn):Fn prog 242 [mnA m] (.tup [yc (if ckM m=0 then perfL m else[]),iv (ckM m)]):=by
 have N:[]=zdu m 0:=by unfold zdu;rfl
 have V:=zoS m;refine kF func242 ntmps242 (λg w d=>?_);refine gc (zn m) ?_;refine gd ?_ ?_<;>intro Z
 ·apply ye;refine yE ?_;refine kE ?_;refine kA (yd (ts:=[(2,yc []),(3,iv (ckM m))]) (hs:=[])) ?_;refine ym ?_ ?_;all_goals(first|(rw[j4 Z];done)|rfl|(rw[j3 Z,←V];rfl)|(rw[j3 Z,←V];done)|exact zE Z)
 apply yk;apply ye;refine yh ?_;iterate 2 apply yf
 refine kJ (yI intE 3 1 5 5 rfl rfl) ?_;apply yj;refine yh ?_;apply kB;refine zu (λj=>[(1,.ptr 1 0 0 0),(5,.own 5),(6,iv (4-(j:Int)))]) (λj=>[(1,.box (mnE m) 23),(5,.row intE (zdu m j) 3 1)]) 4 (λj H=>?_) (h0:=yd);refine gd ?_ ?_<;>intro J
 ·have Q:=zoQ m j;refine gc (yX m (4-(j:Int))) ?_;refine gd ?_ ?_<;>intro U
  ·have T:=zoR (by omega) U;refine gq ?_;refine yD intE [_] ?_;refine gq ?_;refine yz (j+1)
  ·have T:=zpx (by omega) U;refine gq ?_;refine yz (j+1)
 ·have I:j=4:=by omega
  subst I;apply kO;apply ye;refine yE ?_;refine kE ?_;refine kA (k9 (k:=5) rfl) ?_;refine ym ?_ ?_;all_goals(first|(rw[j4 Z];done)|rfl|(rw[j3 Z,←V];rfl)|(rw[j3 Z,←V];done)|exact zE Z)
end
section
attribute [local irreducible] Pur yA yC Ex X Fn Imp LeV LeB FnO It yH
def Mn.pl(m:Mn):Bool:=decide (m.Max=2)&&decide (m.Mod=2)&&decide (m.Tem=2)&&decide (m.Pro=2)
def durR(m:Mn):Nat->Int->Tm
 |0,v=>if m.pl=true then mulV (yx m v) ⟨2,3⟩else yx m v
 |n+1,v=>if m.pl=true then mulV (yx m v) ⟨2,3⟩else if m.p v=3 then mulV (yx m v) ⟨2,3⟩else mulV (durR m n (v+1)) ⟨2,1⟩
def durT(m:Mn)(v:Int):Tm:=durR m (5-v).toNat v
def znu{m:Mn}{v:Int}(h:m.pl=true):durT m v=mulV (yx m v) ⟨2,3⟩:=by
 unfold durT;cases(5-v).toNat<;>simp[durR,h]
def zlG{m:Mn}{v:Int}(h:m.pl=false)(Z:5<=v):durT m v=yx m v:=by
 unfold durT;rw[show(5-v).toNat=0 by omega];simp[durR,h]
def zpy{m:Mn}{v:Int}(h:m.pl=false)(V:v<5)(Z:m.p v=3):durT m v=mulV (yx m v) ⟨2,3⟩:=by
 unfold durT;rw[show(5-v).toNat=(4-v).toNat+1 by omega];simp[durR,h,Z]
def zpz{m:Mn}{v:Int}(h:m.pl=false)(V:v<5)(Z:¬m.p v=3):durT m v=mulV (durT m (v+1)) ⟨2,1⟩:=by
 unfold durT;rw[show(5-v).toNat=(5-(v+1)).toNat+1 by omega];simp[durR,h,Z]
def zaR{m:Mn}{v:Int}(hm:ckM m=0)(Z:1<=v)(V:v<=8):Fn prog 143 [mnA m,iv v] (.tup [tmA (yx m v),iv 0]):=by
 have h:=zlF m v
 have h0:ckMV m v=0:=by
  unfold ckM at hm;unfold ckMV;split at hm
  ·rw[j3 (by assumption),j3 ⟨Z,V⟩]
  ·simp at hm
 rw[h0,j3 rfl]at h;exact h
def zfw{m:Mn}{v:Int}(hm:ckM m=0)(Z:1<=v)(V:v<=8):Fn prog 177 [mnA m,iv v] (.tup [iv (m.p v),iv 0]):=by
 have h:=zdY m v
 have h0:ckMV m v=0:=by
  unfold ckM at hm;unfold ckMV;split at hm
  ·rw[j3 (by assumption),j3 ⟨Z,V⟩]
  ·simp at hm
 rw[h0,j3 rfl]at h;exact h
attribute [local irreducible] yx durT mulV
def zeq(t:Tm):Fn prog 296 [tmA t] (tmA (mulV t ⟨2,3⟩)):=by
 refine kF func296 ntmps296 (λg w d=>?_);refine gc (zdX t ⟨2,3⟩) ?_;refine kL (.one (.cellA rfl rfl rfl rfl ty83 (kC ?_)));all_goals rfl
def zjp(m:Mn)(hm:ckM m=0)(v:Int)(Q:1<=v)(N:v<=8):FnO prog 295 [iv v,.ptr 2000000 0 0 0,.ptr 2000001 0 0 0,.ptr 2000002 0 0 0] [(2000000,.box (mnE m) 23),(2000001,.box [.bool m.pl] 4),(2000002,.box [.fn 295 [.ptr 2000000 0 0 0,.ptr 2000001 0 0 0,.ptr 2000002 0 0 0]] 324)] [2000000,2000001,2000002] (tmA (durT m v)) [(2000000,.box (mnE m) 23),(2000001,.box [.bool m.pl] 4),(2000002,.box [.fn 295 [.ptr 2000000 0 0 0,.ptr 2000001 0 0 0,.ptr 2000002 0 0 0]] 324)]:=by
 induction hn:(5-v).toNat using Nat.strongRecOn generalizing v
 rename_i n ih;refine kX (ts:=[(0,iv v),(1,.ptr 2000000 0 0 0),(2,.ptr 2000001 0 0 0),(3,.ptr 2000002 0 0 0)]) (rv:=[.cell 5 83]) (n:=47) (cs:=[.ptr 2000000 0 0 0,.ptr 2000001 0 0 0,.ptr 2000002 0 0 0]) (by kernel_rfl) func295 rfl ntmps295 rfl rfl (by simp) rfl rfl rfl rfl (λg w d vs=>?_);refine gc (zaR hm Q N) ?_;refine gc (zfw hm Q N) ?_;refine gd ?_ ?_<;>intro Z
 ·have V:=znu (v:=v) Z;refine gq ?_;refine yP (zeq _) ?_;refine kK ?_;apply kQ;refine kE ?_;refine zkj.mk [(5,.ptr 5 0 0 0)] [(5,.box (tmE (mulV (yx m v) ⟨2,3⟩)) 83)] (.inr rfl) (.one (.cellA rfl rfl rfl rfl ty83 (kC ?_)));all_goals rw[V]
 refine gd ?_ ?_<;>intro U
 ·have V:=zlG Z U;apply ye;refine ya ?_;refine kK ?_;apply kQ;refine kE ?_;refine zkj.mk [(5,.ptr 5 0 0 0)] [(5,.box (tmE (yx m v)) 83)] (.inr rfl) (.one (.cellA rfl rfl rfl rfl ty83 (kC ?_)));all_goals rw[V]
 refine gd ?_ ?_<;>intro T
 ·have V:=zpy Z U T;refine gq ?_;refine yP (zeq _) ?_;refine kK ?_;apply kQ;refine kE ?_;refine zkj.mk [(5,.ptr 5 0 0 0)] [(5,.box (tmE (mulV (yx m v) ⟨2,3⟩)) 83)] (.inr rfl) (.one (.cellA rfl rfl rfl rfl ty83 (kC ?_)));all_goals rw[V]
 have V:=zpz Z U T;refine gq ?_;refine zV [(2000000,2000000),(2000001,2000001),(2000002,2000002)] (ih (5-(v+1)).toNat (by omega) (v+1) (by omega) (by omega) rfl) ?_;refine gq ?_;refine yP (zdX (durT m (v+1)) ⟨2,1⟩) ?_;iterate 3 refine ya ?_
 refine zk ?_;refine kK ?_;refine ya ?_;apply yG;refine ya ?_;refine kK ?_;apply kQ;refine kE ?_;refine zkj.mk [(5,.ptr 5 0 0 0)] [(5,.box (tmE (mulV (durT m (v+1)) ⟨2,1⟩)) 83)] (.inr rfl) (.one (.cellA rfl rfl rfl rfl ty83 (kC ?_)));all_goals rw[V]
def zho(m:Mn)(hm:ckM m=0)(v:Int)(Z:1<=v)(V:v<=8):Fn prog 253 [mnA m,iv v] (tmA (durT m v)):=by
 have U:(decide (m.Max=2)&&decide (m.Mod=2)&&decide (m.Tem=2)&&decide (m.Pro=2))=m.pl:=by unfold Mn.pl;rfl
 refine kF func253 ntmps253 (λg w d=>?_);apply ye;refine zH ?_;refine zk ?_;apply yG;iterate 3 refine ya ?_
 refine kI 3 ?_;refine yp ?_;iterate 3 refine kG ?_
 iterate 2 refine yp ?_
 iterate 3 refine kG ?_
 iterate 2 refine yp ?_
 iterate 3 refine kG ?_
 refine ge ?_;refine zV [(2000000,2),(2000001,5),(2000002,6)] (zjp m hm v Z V) ?_;refine gq ?_;refine kL (.one (.cellA rfl rfl rfl rfl ty83 (kC ?_)));all_goals rfl
def zlH(m:Mn)(v:Int):Fn prog 267 [mnA m,iv v] (.tup [tmA (if ckMV m v=0 then durT m v else tmZ),iv (ckMV m v)]):=by
 refine kF func267 ntmps267 (λg w d=>?_);refine gc (zaV m) ?_;refine gd ?_ ?_<;>intro Z
 ·have hE:ckMV m v=ckM m:=by unfold ckMV ckM at*;split<;>simp_all
  refine gq ?_;refine yr ty83 ?_ ?_;all_goals(first|exact zE hE|(rw[hE,j3 rfl];done)|(rw[hE,j3 rfl];rfl)|(rw[hE,j4 Z];rfl))
 apply yk;apply yf;apply ye;iterate 2 refine ya ?_
 refine kI 2 ?_;refine yp ?_;iterate 2 refine kG ?_
 refine gf ?_ ?_<;>intro V
 ·have hE:ckMV m v=2:=by unfold ckM at Z;unfold ckMV;split at Z<;>simp_all;omega
  refine gq ?_;refine yr ty83 ?_ ?_;all_goals(first|exact zE hE|(rw[hE,j3 rfl];done)|(rw[hE,j3 rfl];rfl)|(rw[hE,j4 Z];rfl))
 have hE:ckMV m v=0:=by unfold ckM at Z;unfold ckMV;split at Z<;>simp_all<;>omega
 refine gc (zho m Z v (by omega) (by omega)) ?_;refine yr ty83 ?_ ?_;all_goals(first|exact zE hE|(rw[hE,j3 rfl];done)|(rw[hE,j3 rfl];rfl)|(rw[hE,j4 Z];rfl))
end
section
def zer(f:Mn->Int->Bool):Bool:=([2,3]:List Int).all λa=>([2,3]:List Int).all λb=>([2,3]:List Int).all λc=>([2,3]:List Int).all λe=>([1,2,3,4,5,6,7,8]:List Int).all λv=>f ⟨a,b,c,e⟩ v
theorem zaS{f:Mn->Int->Bool}(h:zer f=true){m:Mn}{v:Int}(hm:ckM m=0)(V:1<=v)(U:v<=8):f m v=true:=by
 have ho:m.Ok:=by
  unfold ckM at hm;split at hm
  ·assumption
  ·simp at hm
 obtain⟨a,b,c,e⟩:=m;have hv:v∈([1,2,3,4,5,6,7,8]:List Int):=by simp;omega
 have Z:∀x:Int,two3 x->x∈([2,3]:List Int):=λx hx=>by simpa[two3]using hx
 unfold zer at h;exact jB.1 (jB.1 (jB.1 (jB.1 (jB.1 h a (Z _ ho.1)) b (Z _ ho.2.1)) c (Z _ ho.2.2.1)) e (Z _ ho.2.2.2)) v hv
def zur(m:Mn)(v:Int):Bool:=
 decide (mulV (yx m v) ⟨2,3⟩=tmkT ((yx m v).N*2) ((yx m v).D*3))&&decide (mulV (durT m v) ⟨2,1⟩=tmkT ((durT m v).N*2) ((durT m v).D*1))&&
 decide (ckT (yx m v)=0)&&decide (ckT (durT m v)=0)&&decide ((yx m v).N<=81)&&decide ((yx m v).D<=8)&&decide ((durT m v).N<=81)&&decide ((durT m v).D<=24)&&decide (1<=(yx m v).N)&&decide (1<=(durT m v).N)
def zoT:zer zur=true:=by kernel_rfl
def ze1{m:Mn}{v:Int}(hm:ckM m=0)(Z:1<=v)(V:v<=8):mulV (yx m v) ⟨2,3⟩=tmkT ((yx m v).N*2) ((yx m v).D*3)/\mulV (durT m v) ⟨2,1⟩=tmkT ((durT m v).N*2) ((durT m v).D*1)∧
 ckT (yx m v)=0/\ckT (durT m v)=0/\(yx m v).N<=81/\(yx m v).D<=8/\(durT m v).N<=81/\(durT m v).D<=24/\1<=(yx m v).N/\1<=(durT m v).N:=by
 have h:=zaS zoT hm Z V;unfold zur at h;simp only[j7,w5]at h;obtain⟨⟨⟨⟨⟨⟨⟨⟨⟨a,b⟩,c⟩,d⟩,e⟩,f⟩,g⟩,i⟩,j⟩,k⟩:=h;exact⟨a,b,c,d,e,f,g,i,j,k⟩
def zlI(m:Mn)(hm:ckM m=0):((perfL m).length:Int)=0↔m.pl=true:=by
 have h:∀v:Int,1<=v->m.p v=2\/m.p v=3:=zhU hm;have a:=h 1 (by omega);have b:=h 2 (by omega);have c:=h 3 (by omega);have e:=h 4 (by omega);have e1:m.p 1=m.Max:=rfl;have e2:m.p 2=m.Mod:=rfl;have e3:m.p 3=m.Tem:=rfl;have e4:m.p 4=m.Pro:=rfl;unfold perfL Mn.pl;rw[e1]at a;rw[e2]at b;rw[e3]at c;rw[e4]at e;simp only[u5,e1,e2,e3,e4,List.filter_nil];rcases a with a|a<;>rcases b with b|b<;>rcases c with c|c<;>rcases e with e|e<;>simp[a,b,c,e]
end
section
attribute [local irreducible] Pur yA yC Ex X Fn Imp LeV LeB FnO It yH
def zmK{m:Mn}{v:Int}(hm:ckM m=0)(Z:1<=v)(V:v<=8):ckMV m v=0:=by
 unfold ckM at hm;unfold ckMV;split at hm
 ·rw[j3 (by assumption),j3 ⟨Z,V⟩]
 ·simp at hm
def zy{m:Mn}{v:Int}(hm:ckM m=0)(Z:1<=v)(V:v<=8):Fn prog 150 [mnA m,iv v] (.tup [tmA (yx m v),iv 0]):=by
 have h:=zfO m v;rw[zmK hm Z V,j3 rfl]at h;exact h
def zd9{m:Mn}(hm:ckM m=0):Fn prog 242 [mnA m] (.tup [yc (perfL m),iv 0]):=by
 have h:=zb6 m;rw[hm,j3 rfl]at h;exact h
def zlJ{m:Mn}(hm:ckM m=0)(h:¬((perfL m).length:Int)=0):m.pl=false:=by
 cases Z:m.pl with
 |false=>rfl
 |true=>exact absurd ((zlI m hm).2 Z) h
def zvw{m:Mn}{v:Int}(hm:ckM m=0)(V:1<=v)(U:v<=8)(h:((perfL m).length:Int)=0\/(v<5/\m.p v=3)):durT m v=tmkT ((yx m v).N*2) ((yx m v).D*3):=by
 rw[←(ze1 hm V U).1];cases Z:m.pl with
 |true=>exact znu Z
 |false=>
  rcases h with h|h
  ·rw[(zlI m hm).1 h]at Z;cases Z
  ·exact zpy Z h.1 h.2
def zvx{m:Mn}{v:Int}(hm:ckM m=0)(T:1<=v)(Z:m.pl=false)(V:v<5)(U:¬m.p v=3):durT m v=tmkT ((durT m (v+1)).N*2) ((durT m (v+1)).D*1):=by
 rw[←(ze1 hm (show 1<=v+1 by omega) (by omega)).2.1];exact zpz Z V U
def clr(s:Sg):Bool:=decide (s.Kind=1)&&s.Color
def zdd(l:List Sg)(by':Int):Nat->Int->Option Sg
 |0,_=>none
 |n+1,i=>if 0<=i/\i<(l.length:Int)then(if(l.getD i.toNat default).Kind=3 then zdd l by' n (i+by')else some (l.getD i.toNat default))else none
def zde(l:List Sg)(by' i:Int):Option Sg:=zdd l by' (l.length+2) i
def zjK{l:List Sg}{by':Int}{n:Nat}{i:Int}(h:¬(0<=i/\i<(l.length:Int))):zdd l by' n i=none:=by
 cases n with
 |zero=>rfl
 |succ n=>unfold zdd;rw[j4 h]
def zjL{l:List Sg}{by':Int}{n:Nat}{i:Int}(h:0<=i/\i<(l.length:Int))(Z:¬(l.getD i.toNat default).Kind=3)(V:0<n):zdd l by' n i=some (l.getD i.toNat default):=by
 cases n with
 |zero=>omega
 |succ n=>unfold zdd;rw[j3 h,j4 Z]
def zlK{l:List Sg}{by':Int}{n:Nat}{i:Int}(h:0<=i/\i<(l.length:Int))(Z:(l.getD i.toNat default).Kind=3)(V:0<n):zdd l by' n i=zdd l by' (n-1) (i+by'):=by
 cases n with
 |zero=>omega
 |succ n=>conv=>lhs;unfold zdd
          rw[j3 h,j3 Z];rfl
def sgZ0:Sg:=⟨0,0,0,0,false,0,false,false,⟨0,0,0,0⟩,false,0,0,0,0⟩
def frB:Option Sg->Bool
 |some s=>!clr s
 |none=>true
def znv:Option Sg->Sg
 |some s=>s
 |none=>sgZ0
def zaB(l:List Sg)(i:Int):Bool:=decide (i+1<(l.length:Int))&&clr (l.getD i.toNat default)&&decide ((l.getD i.toNat default).Value=4)&&clr (l.getD (i+1).toNat default)&&decide ((l.getD (i+1).toNat default).Value=5)&&
 !(decide (i+2<(l.length:Int))&&decide ((l.getD (i+2).toNat default).Kind=3))&&frB (zde l (-1) (i-1))&&frB (zde l 1 (i+2))
attribute [local irreducible] yx durT mulV tmkT perfL zdd
def zch(t:Tm)(n q:Int)(Z:0<=t.N*n/\t.N*n<=9223372036854775807)(V:0<=t.D*q/\t.D*q<=9223372036854775807):Fn prog 308 [tmA t,iv n,iv q] (tmA (tmkT (t.N*n) (t.D*q))):=by
 refine kF func308 ntmps308 (λg w d=>?_);refine gc (zcS (t.N*n) (t.D*q) (by omega) (by omega)) ?_;refine kL (.one (.cellA rfl rfl rfl rfl ty83 (kC ?_)));all_goals rfl
def zdf(m:Mn)(hm:ckM m=0)(v:Int)(T:1<=v)(Q:v<=8):Fn prog 273 [mnA m,iv v] (tmA (durT m v)):=by
 induction hn:(5-v).toNat using Nat.strongRecOn generalizing v
 rename_i n ih;have hf:=ze1 hm T Q;have J:=z7 hf.2.2.1;refine kF func273 ntmps273 (λg w d=>?_);refine gc (zy hm T Q) ?_;refine yP (zd9 hm) ?_;iterate 2 refine ya ?_
 refine yE ?_;apply yf;apply kB;apply ye;iterate 3 refine ya ?_
 refine kI 3 ?_;refine gq ?_;refine bA (yX m v) ?_;iterate 2 refine kG ?_
 refine gf ?_ ?_<;>intro Z
 ·have V:=zvw hm T Q Z;refine gc (zch (yx m v) 2 3 (by omega) (by omega)) ?_;refine kL (.one (.cellA rfl rfl rfl rfl ty83 (kC ?_)));all_goals exact zE V
 refine gd ?_ ?_<;>intro U
 ·have V:=zlG (zlJ hm Z.1) U;refine gq ?_;refine kL (.one (.cellA rfl rfl rfl rfl ty83 (kC ?_)));all_goals exact zE V
 have V:=zvx hm T (zlJ hm Z.1) U (by omega);have N:=ze1 hm (show 1<=v+1 by omega) (by omega);have I:=z7 N.2.2.2.1;refine gq ?_;refine yP (ih (5-(v+1)).toNat (by omega) (v+1) (by omega) (by omega) rfl) ?_;refine gc (zch (durT m (v+1)) 2 1 (by omega) (by omega)) ?_;refine kL (.one (.cellA rfl rfl rfl rfl ty83 (kC ?_)));all_goals exact zE V
def zgk(m:Mn)(v:Int):Fn prog 228 [mnA m,iv v] (.tup [tmA (if ckMV m v=0 then durT m v else tmZ),iv (ckMV m v)]):=by
 refine kF func228 ntmps228 (λg w d=>?_);refine gc (zn m) ?_;refine gd ?_ ?_<;>intro Z
 ·have hE:ckMV m v=ckM m:=by unfold ckMV ckM at*;split<;>simp_all
  refine gq ?_;refine yr ty83 ?_ ?_;all_goals(first|exact zE hE|(rw[hE,j3 rfl];done)|(rw[hE,j3 rfl];rfl)|(rw[hE,j4 Z];rfl))
 apply yk;apply yf;apply ye;iterate 2 refine ya ?_
 refine kI 2 ?_;refine yp ?_;iterate 2 refine kG ?_
 refine gf ?_ ?_<;>intro V
 ·have hE:ckMV m v=2:=by unfold ckM at Z;unfold ckMV;split at Z<;>simp_all;omega
  refine gq ?_;refine yr ty83 ?_ ?_;all_goals(first|exact zE hE|(rw[hE,j3 rfl];done)|(rw[hE,j3 rfl];rfl)|(rw[hE,j4 Z];rfl))
 have hE:ckMV m v=0:=by unfold ckM at Z;unfold ckMV;split at Z<;>simp_all<;>omega
 refine gc (zdf m Z v (by omega) (by omega)) ?_;refine yr ty83 ?_ ?_;all_goals(first|exact zE hE|(rw[hE,j3 rfl];done)|(rw[hE,j3 rfl];rfl)|(rw[hE,j4 Z];rfl))
def zba(s:Sg):Fn prog 252 [sgA s] (.bool (clr s)):=by
 refine kF func252 ntmps252 (λg w d=>?_);apply ye;refine zH ?_;refine ya ?_;apply yG;iterate 3 refine ya ?_
 refine kI 3 ?_;refine yp ?_;iterate 2 refine kG ?_
 refine ge ?_;all_goals rfl
def zA(s:Sg):Fn prog 285 [sgA s] (.bool (clr s)):=by
 refine kF func285 ntmps285 (λg w d=>?_);apply ye;refine zH ?_;refine ya ?_;apply yG;iterate 3 refine ya ?_
 refine kI 3 ?_;refine yp ?_;iterate 2 refine kG ?_
 refine ge ?_;all_goals rfl
def zgl(l:List Sg)(hl:l.length<=4000000000)(i b:Int)(T:b=1\/b=-1)(h0:-2<=i)(Q:i<=(l.length:Int)+2)(N:b=-1->i<=(l.length:Int)+1):Fn prog 345 [sgsA l,iv i,iv b] (.bool (frB (zde l b i))):=by
 refine kF func345 ntmps345 (λg w d=>?_);refine gq ?_;refine zd3 (ι:=Nat×Int) (λ(p:Nat×Int)=>[(0,sgsA l),(1,iv p.2),(2,iv b)]) (λ(p:Nat×Int)=>[]) (λ(p:Nat×Int)=>zdd l b (l.length+2) i=zdd l b p.1 p.2/\((b=1/\(l.length:Int)-p.2<=(p.1:Int))\/(b=-1/\p.2+1<=(p.1:Int)))/\-3<=p.2/\p.2<=(l.length:Int)+3) (λ(p:Nat×Int)=>p.1) (l.length+2,i) (λp U=>?_) (hJ:=by exact⟨rfl,by dsimp only;omega,by dsimp only;omega,by dsimp only;omega⟩);obtain⟨n,j⟩:=p;obtain⟨k1,k2,k3,k4⟩:=U;dsimp only at*
 apply yf;apply ye;iterate 2 refine ya ?_
 refine kI 2 ?_;refine yp ?_;iterate 4 refine kG ?_
 refine gf ?_ ?_<;>intro Z
 ·refine gd ?_ ?_<;>intro V
  ·refine gc (zba _) ?_;all_goals(unfold zde;rw[k1,zjL Z V (by omega)];rfl)
  refine gq ?_;refine yz ((n-1,j+b)) (hJ:=by exact⟨by rw[k1,zlK Z V (by omega)],by dsimp only;omega,by dsimp only;omega,by dsimp only;omega⟩) (hm:=by dsimp only;omega)
 ·refine gq ?_;all_goals(unfold zde;rw[k1,zjK (by omega)];rfl)
def zcD(l:List Sg)(hl:l.length<=4000000000)(i b:Int)(Q:b=1\/b=-1)(h0:-2<=i)(N:i<=(l.length:Int)+2)(J:b=-1->i<=(l.length:Int)+1):Fn prog 339 [sgsA l,iv i,iv b] (.tup [sgA (znv (zde l b i)),.bool (zde l b i).isSome]):=by
 refine kF func339 ntmps339 (λg w d=>?_);refine gq ?_;refine zd3 (ι:=Nat×Int) (λ(p:Nat×Int)=>[(0,sgsA l),(1,iv p.2),(2,iv b),(6,.ptr 6 0 0 0)]) (λ(p:Nat×Int)=>[(6,.box (sgE sgZ0) 90)]) (λ(p:Nat×Int)=>zdd l b (l.length+2) i=zdd l b p.1 p.2/\((b=1/\(l.length:Int)-p.2<=(p.1:Int))\/(b=-1/\p.2+1<=(p.1:Int)))/\-3<=p.2/\p.2<=(l.length:Int)+3) (λ(p:Nat×Int)=>p.1) (l.length+2,i) (λp T=>?_) (hJ:=by exact⟨rfl,by dsimp only;omega,by dsimp only;omega,by dsimp only;omega⟩);obtain⟨n,j⟩:=p;obtain⟨k1,k2,k3,k4⟩:=T;dsimp only at*
 apply yf;apply ye;iterate 2 refine ya ?_
 refine kI 2 ?_;refine yp ?_;iterate 4 refine kG ?_
 refine gf ?_ ?_<;>intro Z
 ·refine gd ?_ ?_<;>intro V
  ·have U:zde l b i=some (l.getD j.toNat default):=by unfold zde;rw[k1,zjL Z V (by omega)]
   refine gq ?_;refine yr ty90 ?_ ?_;all_goals exact zE U
  refine gq ?_;refine yz ((n-1,j+b)) (hJ:=by exact⟨by rw[k1,zlK Z V (by omega)],by dsimp only;omega,by dsimp only;omega,by dsimp only;omega⟩) (hm:=by dsimp only;omega)
 ·have U:zde l b i=none:=by unfold zde;rw[k1,zjK (by omega)]
  refine gq ?_;refine yr ty90 ?_ ?_;all_goals exact zE U
end
end Go.Rse
