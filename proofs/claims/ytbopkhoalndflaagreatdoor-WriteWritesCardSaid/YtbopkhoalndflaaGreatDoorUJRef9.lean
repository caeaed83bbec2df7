/-
  Walks.
-/
import Derived.Test.YtbopkhoalndflaaGreatDoorUJDot9
set_option linter.all false
namespace Go.Rse
open Go Go.Proofs Go.Proofs.Tryz
section
attribute [local irreducible] Pur yA yC Ex X Fn Imp LeV LeB FnO It yH
def zaR(m:Mn)(v:Int):Fn prog 132 [mnA m,iv v] (.tup [iv (m.aV v),iv (ckMV m v)]):=zfO m v
def zfW(l:List Sg)(k:Nat):Int:=match k with
 |0=>-1
 |j+1=>match l[j]? with|some p=>if p.Kind=3 then-1 else(j:Int)|none=>-1
theorem zkr{L:List Int}{k:Nat}{x v:Int}(h:L[k]? =some x):ownV (L.drop k) v=if x=0\/x=v then x else ownV (L.drop (k+1)) v:=by
 grind[List.drop_eq_getElem_cons,ownV]
def zqV(m:Mn)(s:Sg):1<=(mngR m s).length/\(mngR m s).length<=2:=by
 grind[mngR]
def zks{l:List Sg}{k:Nat}{s:Sg}{α:Type}(f:Int->α)(h:l[k]? =some s)(Z:s.Kind=3):(yU l k).map f++[f k]=(yU l (k+1)).map f:=by
 simp[yU,h,Z]
def zmy{l:List Sg}{k:Nat}{s:Sg}{α:Type}(f:Int->α)(h:l[k]? =some s)(Z:¬s.Kind=3):(yU l k).map f=(yU l (k+1)).map f:=by
 simp[yU,h,Z]
def zu8{m:Mn}{l:List Sg}(h:ckR m l=0){k:Nat}{s:Sg}(hs:l[k]? =some s)(V:s.Kind=3):∃p:Sg,0<k/\l[((k:Int)-1).toNat]? =some p/\zeG l k=some p/\p.Value<=8:=by
 rw[←znZ]at h;cases k with
 |zero=>
  have:=(zax (zeI h).2 1 (j1.1 hs).1).2 0 s (by omega) hs;simp_all[sgF]
 |succ j=>
  have U:=(j1.1 hs).1;obtain⟨p,Z⟩:∃p,l[j]? =some p:=⟨_,lgg (by omega)⟩;have e:(((j+1:Nat):Int)-1).toNat=j:=by omega
  exact⟨p,by omega,by rw[e];exact Z,by grind[zeG],(zkZ h hs V Z).2.2.2.1⟩
def zs6{m:Mn}{l:List Sg}{k:Nat}{s:Sg}(hs:l[k]? =some s)(Z:s.Kind=3):
 (zfW l k<0/\sgR m l k s=13)\/(∃p:Sg,0<=zfW l k/\l[(zfW l k).toNat]? =some p/\sgR m l k s=if p.Kind=2/\m.aV p.Value=0 then 13 else 0):=by
 cases k with
 |zero=>simp_all[zfW,sgR]
 |succ j=>
  grind[zfW,sgR]
def zmz{l:List Sg}{k:Nat}(Z:k<l.length):zfW l k=if 0<(k:Int)/\¬(l.getD ((k:Int)-1).toNat default).Kind=3 then(k:Int)-1 else-1:=by
 cases k<;>grind[zfW]
def zqW{l:List Sg}{k:Nat}{v:Int}(Z:k<l.length)(hv:v<=8):((k:Int)+1=(l.length:Int)\/v<(l.getD ((k:Int)+1).toNat default).Value)↔ziN l k>v:=by
 grind[ziN]
def zgh(l:List Sg)(k:Nat)(V:k<l.length)(hl:l.length<=4000000000):Fn prog 131 [sgsA l,iv (k:Int)] (iv (zfW l k)):=by
 refine kC func131 ntmps131 (λg w d=>?_);apply ye;refine yi ?_;apply yf;apply ye;iterate 2 refine ya ?_
 refine kG 2 ?_;refine yn ?_;iterate 7 refine kF ?_
 refine gf ?_ ?_<;>intro Z
 ·have HL:=Z;refine gq ?_;all_goals(congr 1;rw[zmz V,j4 HL])
 apply yl;apply ye;refine yi ?_;refine kE ?_;refine zaA ?_;simp_all[zmz];omega
def zgS(l:List Int)(v:Int)(hl:l.length<=4000000000):Fn prog 281 [yc l,iv v] (iv (ownV l v)):=by
 refine kC func281 ntmps281 (λg w d=>?_);refine gq ?_
 refine zcw (ι:=Nat) (λ(k:Nat)=>[(0,yc l),(1,iv v),(5,iv (k:Int))]) (λ(k:Nat)=>[]) (λ(k:Nat)=>k<=l.length/\ownV l v=ownV (l.drop k) v) (λ(k:Nat)=>l.length-k) 0 (λk Z=>?_) (hJ:=by
  simp_all)
 obtain⟨V,U⟩:=Z;refine gd ?_ ?_<;>intro T
 ·obtain⟨x,hx⟩:∃x,l[k]? =some x:=⟨_,lgg (by omega)⟩;have Q:l[(k:Int).toNat]? =some x:=by simpa using hx
  apply yl;apply yf;apply kA;apply ye;iterate 5 refine ya ?_
  refine kG 5 ?_;refine yn ?_;iterate 6 refine kF ?_
  refine gf ?_ ?_<;>intro N
  ·apply ye;(iterate 2 refine ya ?_);refine yq ?_;refine kE ?_;refine zaA ?_;simp_all[zkr]
  refine gq ?_
  refine yo (k+1) (hJ:=by
   grind[zkr])
 ·apply kK;apply ye;refine yi ?_;refine kE ?_;refine zaA ?_
  grind[ownV]
set_option maxHeartbeats 2000000 in
def zba(m:Mn)(l:List Sg)(hl:l.length<=1000):Fn prog 81 [mnA m,sgsA l] (iv (ckR m l)):=by
 refine kC func81 ntmps81 (λg w d=>?_);refine gc (zk m) ?_;refine gd ?_ ?_<;>intro H
 ·apply ye;refine yL ?_;refine kE ?_;refine zaA ?_;simp_all[ckR]
 refine gq ?_
 refine zcw (ι:=Nat) (λ(k:Nat)=>[(1,sgsA l),(2,.ptr 2 0 0 0),(6,iv (k:Int))]) (λ(k:Nat)=>[(2,.box (mnE m) 23)]) (λ(k:Nat)=>k<=l.length/\ckR m l=zcL m l k (l.drop k)) (λ(k:Nat)=>l.length-k) 0 (λk E=>?_) (hJ:=by
  simp_all[ckR])
 obtain⟨xT,Z⟩:=E;refine gd ?_ ?_<;>intro x4
 ·obtain⟨s,hs⟩:∃s,l[k]? =some s:=⟨_,lgg (by omega)⟩;have x3:l[(k:Int).toNat]? =some s:=by simpa using hs
  refine gd ?_ ?_<;>intro U
  ·refine gd ?_ ?_<;>intro x2
   ·apply ye;(iterate 6 refine ya ?_);refine kG 6 ?_;refine yn ?_;(iterate 6 refine kF ?_);refine gf ?_ ?_<;>intro x1
    ·have V:sgR m l k s=2:=by unfold sgR;rw[j4 (.inl U),j3 (by omega)]
     refine gq ?_;all_goals(rw[Z,zbr hs (by rw[V];decide),V])
    have h0:sgR m l k s=0:=by unfold sgR;rw[j4 (.inl U),j4 (by omega)]
    refine gq ?_;refine yo (k+1) (hJ:=by exact⟨by omega,by rw[Z,zd5 hs h0]⟩)
   omega
  ·refine gd ?_ ?_<;>intro Q
   ·apply ye;(iterate 6 refine ya ?_);refine kG 6 ?_;refine yn ?_;(iterate 6 refine kF ?_);refine gf ?_ ?_<;>intro x0
    ·have V:sgR m l k s=2:=by unfold sgR;rw[j4 (.inr Q),j3 (by omega)]
     apply ye;refine yi ?_;refine kE ?_;refine zaA ?_;simp_all[zbr]
    have h0:sgR m l k s=0:=by simp_all[sgR]
    refine gq ?_
    refine yo (k+1) (hJ:=by
     grind[zd5])
   ·refine gd ?_ ?_<;>intro N
    ·have J:=zs6 (m:=m) hs N;refine gc (zgh l k (by omega) (by omega)) ?_;refine gd ?_ ?_<;>intro w2
     ·have V:sgR m l k s=13:=by
       rcases J with h|⟨p,h,_⟩
       ·exact h.2
       ·omega
      apply ye;refine yi ?_;refine kE ?_;refine zaA ?_;simp_all[zbr]
     obtain⟨p,v9,hp,I⟩:∃p:Sg,0<=zfW l k/\l[(zfW l k).toNat]? =some p/\sgR m l k s=if p.Kind=2/\m.aV p.Value=0 then 13 else 0:=by
      grind
     refine gq ?_;refine yQ [8,9,50,51,52,53,54,55,56,57,58,59] [0,0,0,6,14,30,63,127,255,255,511,2047] mo ?_;(iterate 6 refine yb ?_);refine yI (zaR m _) ?_;(iterate 5 refine yb ?_);refine yx ?_;apply yG;(iterate 6 refine ya ?_);refine kG 6 ?_;refine yn ?_;(iterate 2 refine kF ?_);refine gf ?_ ?_<;>intro T
     ·have V:sgR m l k s=13:=by rw[I,j4 T]
      apply ye;refine yi ?_;refine kE ?_;refine zaA ?_;simp_all[zbr]
     have h0:sgR m l k s=0:=by omega
     refine gq ?_
     refine yo (k+1) (hJ:=by
      grind[zd5])
    ·have V:sgR m l k s=8:=by unfold sgR;rw[j3 (by omega),j3 (by omega)]
     apply ye;refine yi ?_;refine kE ?_;refine zaA ?_;simp_all[zbr]
 ·refine gq ?_;all_goals(rw[Z,wB (by omega)];rfl)
def zbN(m:Mn)(s:Sg):Fn prog 280 [mnA m,sgA s] (yc (mngR m s)):=by
 refine kC func280 ntmps280 (λg w d=>?_);refine gc (zaR m s.Value) ?_;refine gd ?_ ?_<;>intro Z
 ·refine gq ?_;refine yz intE [_] ?_;refine yi ?_;refine kE ?_;refine k8 (k9 (k:=19) rfl) ?_;refine gq ?_;all_goals(first|(simp[mngR, *];rfl)|(have h0:¬m.aV s.Value=0:=(by omega);simp[mngR, *];rfl))
 refine gd ?_ ?_<;>intro V
 ·apply ye;refine yz intE [_] ?_;refine yi ?_;refine kE ?_;refine k8 (k9 (k:=23) rfl) ?_;refine gq ?_;all_goals(first|(simp[mngR, *];rfl)|(have h0:¬m.aV s.Value=0:=(by omega);simp[mngR, *];rfl))
 refine gq ?_;refine yM (y4 m s.Value) ?_;refine ya ?_;refine kG 5 ?_;refine yn ?_;iterate 2 refine kF ?_
 refine gf ?_ ?_<;>intro U
 ·apply ye;refine yz intE [_] ?_;refine yi ?_;refine kE ?_;refine k8 (k9 (k:=34) rfl) ?_;refine gq ?_;all_goals(first|(simp[mngR, *];rfl)|(have h0:¬m.aV s.Value=0:=(by omega);simp[mngR, *];rfl))
 refine gc (y4 m s.Value) ?_;refine gd ?_ ?_<;>intro T
 ·refine gq ?_;refine yz intE [_,_] ?_;refine yi ?_;refine kE ?_;refine k8 (k9 (k:=42) rfl) ?_;refine gq ?_;all_goals(first|(simp[mngR, *];rfl)|(have h0:¬m.aV s.Value=0:=(by omega);simp[mngR, *];rfl))
 refine gd ?_ ?_<;>intro Q
 ·refine gq ?_;refine yz intE [_] ?_;refine yi ?_;refine kE ?_;refine k8 (k9 (k:=48) rfl) ?_;refine gq ?_;all_goals(first|(simp[mngR, *];rfl)|(have h0:¬m.aV s.Value=0:=(by omega);simp[mngR, *];rfl))
 refine gq ?_;refine yz intE [_,_] ?_;refine yi ?_;refine kE ?_;refine k8 (k9 (k:=52) rfl) ?_;refine gq ?_;all_goals(first|(simp[mngR, *];rfl)|(have h0:¬m.aV s.Value=0:=(by omega);simp[mngR, *];rfl))
theorem zed(m:Mn)(l:List Sg)(hl:l.length<=1000):Fn prog 283 [mnA m,sgsA l] (.tup [zdr (if ckR m l=0 then mnsR m l else[]),iv (ckR m l)]):=by
 refine kC func283 ntmps283 (λg w d=>?_);refine gc (zba m l hl) ?_;refine gd ?_ ?_<;>intro Z
 ·apply ye;refine yq ?_;refine kE ?_;refine k8 (yd (ts:=[(4,zdr []),(5,iv (ckR m l))]) (hs:=[])) ?_;refine yh ?_ ?_;all_goals simp_all
 apply yl;apply ye;refine yi ?_;iterate 2 apply yf
 refine kJ (yE zjS 46 1 7 7 rfl rfl) ?_;apply yj;refine yi ?_;apply kA;refine ze (λk=>[(1,sgsA l),(2,.ptr 2 0 0 0),(7,.own 7),(8,iv (k:Int))]) (λk=>[(2,.box (mnE m) 23),(7,.row zjS ((yU l k).map (zgE m l)) 46 1)]) l.length (λk hk=>?_) (h0:=yd);refine gd ?_ ?_<;>intro J
 ·obtain⟨s,hs⟩:∃s,l[k]? =some s:=⟨_,lgg (by omega)⟩;have I:l[(k:Int).toNat]? =some s:=by simpa using hs
  have H:=zcb l k;have E:((yU l k).map (zgE m l)).length<=1000:=by simp;omega
  refine gd ?_ ?_<;>intro U
  ·obtain⟨p,xT,hp,Q,x4⟩:=zu8 Z hs U;have V:=zks (zgE m l) hs U;rw[show zgE m l k=mngR m p by unfold zgE;rw[Q]]at V;apply yf;refine yQ [9,28,29,30,31,32,33,34] [0,0,0,4,14,30,63,127] mo ?_;(iterate 6 refine yb ?_);refine yI (zbN m _) ?_;refine yb ?_;refine yx ?_;refine gq ?_;refine yz zjS [_] ?_;refine gq ?_;refine yo (k+1)
  ·have V:=zmy (zgE m l) hs U;refine gq ?_;refine yo (k+1)
 ·have N:k=l.length:=by omega
  subst N;have T:(yU l l.length).map (zgE m l)=mnsR m l:=rfl;apply kK;apply ye;refine yq ?_;refine kE ?_;refine k8 (k9 (k:=7) rfl) ?_;refine yh ?_ ?_;all_goals(first|(simp[Z];done)|(rw[j4 Z,←T];rfl)|(rw[j3 Z])|exact zE Z|rfl)
set_option maxHeartbeats 4000000 in
theorem zgi(m:Mn)(l:List Sg)(hl:l.length<=1000):Fn prog 237 [mnA m,sgsA l] (.tup [yc (if ckR m l=0 then zp2 m l else[]),iv (ckR m l)]):=by
 refine kC func237 ntmps237 (λg w d=>?_);refine gc (zba m l hl) ?_;refine gd ?_ ?_<;>intro V
 ·apply ye;refine yq ?_;refine kE ?_;refine k8 (yd (ts:=[(4,yc []),(5,iv (ckR m l))]) (hs:=[])) ?_;refine yh ?_ ?_;all_goals simp_all
 apply yl;apply ye;refine yi ?_;iterate 2 apply yf
 refine kJ (yE intE 3 1 7 7 rfl rfl) ?_;apply yj;refine yi ?_;apply kA;refine ze (λk=>[(1,sgsA l),(2,.ptr 2 0 0 0),(7,.own 7),(8,iv (k:Int))]) (λk=>[(2,.box (mnE m) 23),(7,.row intE ((yU l k).map (zcM m l)) 3 1)]) l.length (λk hk=>?_) (h0:=yd);refine gd ?_ ?_<;>intro I
 ·obtain⟨s,hs⟩:∃s,l[k]? =some s:=⟨_,lgg (by omega)⟩;have H:l[(k:Int).toNat]? =some s:=by simpa using hs
  have E:=zcb l k;have xT:((yU l k).map (zcM m l)).length<=1000:=by simp;omega
  refine gd ?_ ?_<;>intro T
  ·have Z:=zmy (zcM m l) hs T;refine gq ?_;refine yo (k+1)
  obtain⟨p,x4,hp,N,x3⟩:=zu8 V hs T;have Z:=zks (zcM m l) hs T;rw[show zcM m l k=zbf m l k p by unfold zcM;rw[N]]at Z;have x2:=zqV m p;obtain⟨c0,x1⟩:∃c0,(mngR m p)[(0:Int).toNat]? =some c0:=⟨_,lgg (by simp;omega)⟩
  have x0:(mngR m p).headD 0=c0:=by
   cases hq:mngR m p<;>simp_all
  refine gq ?_;refine yQ [9,30,31,32,33,34,35,36] [0,0,0,4,14,30,63,127] mo ?_;iterate 6 refine yb ?_
  refine yI (zbN m _) ?_;refine yb ?_;refine yx ?_;refine gq ?_;refine yQ [10,11,37,38,39,40,41,42,43,44,45,46,47] [0,0,0,4,14,30,62,127,255,511,511,1023,4095] mo ?_;iterate 7 refine yb ?_
  refine yI (zaR m p.Value) ?_;iterate 5 refine yb ?_
  refine yx ?_;refine gd ?_ ?_<;>intro w2
  ·have U:zbf m l k p=c0:=by simp_all[zbf];omega
   rw[U]at Z;refine gq ?_;refine yz intE [_] ?_;refine gq ?_;refine yo (k+1)
  ·have v9:=zqW (k:=k) (v:=p.Value) (by omega:k<l.length) (by omega);apply yf;refine yQ [62,63,64,65,66,67,68,69,70,71,72,73,74,75,76,77,78,79,80,81,82] [0,1,0,4,15,31,63,63,191,511,1023,2047,63,63,8255,28735,61503,127039,262143,524287,1048575] mo ?_;(iterate 6 refine yb ?_);(iterate 13 refine kM ?_);(iterate 2 refine yb ?_);refine yx ?_;refine gd ?_ ?_<;>intro v8
   ·have U:zbf m l k p=ownV (mngR m p) p.Value:=by simp[zbf];omega
    rw[U]at Z;refine gq ?_;refine yM (zgS (mngR m p) p.Value (by omega)) ?_;refine yz intE [_] ?_;refine gq ?_;refine yo (k+1)
   ·have U:zbf m l k p=m.aV p.Value:=by simp[zbf];omega
    rw[U]at Z;refine gq ?_;refine yz intE [_] ?_;refine gq ?_;refine yo (k+1)
 ·have J:k=l.length:=by omega
  subst J;have Q:(yU l l.length).map (zcM m l)=zp2 m l:=rfl;apply kK;apply ye;refine yq ?_;refine kE ?_;refine k8 (k9 (k:=7) rfl) ?_;refine yh ?_ ?_;all_goals(first|(simp[V];done)|(rw[j4 V,←Q];rfl)|(rw[j3 V])|exact zE V|rfl)
def zH(m:Mn)(l:List Sg)(hl:l.length<=1000):Fn prog 81 [mnA m,sgsA l] (iv (ckD m l)):=by
 rw[znZ];exact zba m l hl
def C_tactusref09_Meanings'(m:Mn)(l:List Sg)(hl:l.length<=1000):Fn prog 283 [mnA m,sgsA l] (.tup [zdr (if ckD m l=0 then mnsD m l else[]),iv (ckD m l)]):=by
 grind[zed,znZ,zvR]
def zfM(m:Mn)(l:List Sg)(hl:l.length<=1000):Fn prog 237 [mnA m,sgsA l] (.tup [yc (if ckD m l=0 then zh m l else[]),iv (ckD m l)]):=by
 grind[zgi,znZ,zsi]
end
section
attribute [local irreducible] Pur yA yC Ex X Fn Imp LeV LeB FnO It yH
def zat(m:Mn)(l:List Sg)(i:Int):Bool:=decide (m.Pro=2)&&zaH l i
def zP(m:Mn)(l:List Sg):Nat->List Int
 |0=>[]
 |k+1=>if zat m l (k:Int)=true then zP m l k++[(k:Int)]else zP m l k
def zaw(m:Mn)(l:List Sg):List Int:=zP m l l.length
def zhT(m:Mn)(l:List Sg):List (List AV):=(zaw m l).map λi=>[iv i]
def zfm{m:Mn}{l:List Sg}{k:Nat}(h:zat m l (k:Int)=true):zP m l k++[(k:Int)]=zP m l (k+1):=by
 conv=>rhs;unfold zP
 rw[j4 h]
def zgT{m:Mn}{l:List Sg}{k:Nat}(h:zat m l (k:Int)=false):zP m l k=zP m l (k+1):=by
 conv=>rhs;unfold zP
 rw[j3 (by simp[h])]
def zhx(m:Mn)(l:List Sg):∀k,(zP m l k).length<=k
 |0=>jE _
 |k+1=>by
  unfold zP;have:=zhx m l k;split
  ·simp;omega
  ·omega
def zkt{m:Mn}{l:List Sg}(k:Nat):∀d,∃r,zP m l (k+d)=zP m l k++r
 |0=>⟨[],by simp⟩
 |d+1=>by
  obtain⟨r,hr⟩:=zkt (m:=m) (l:=l) k d;show∃r,zP m l ((k+d)+1)=_;by_cases h:zat m l ((k+d:Nat):Int)=true
  ·rw[←zfm h,hr];exact⟨r++[((k+d:Nat):Int)],by simp⟩
  ·rw[←zgT (by simpa using h)];exact⟨r,hr⟩
def zpB{m:Mn}{l:List Sg}{k:Nat}(Z:k<l.length)(h:zat m l (k:Int)=true):(zhT m l)[(zP m l k).length]? =some [iv (k:Int)]:=by
 obtain⟨r,hr⟩:=zkt (m:=m) (l:=l) (k+1) (l.length-(k+1));rw[show k+1+(l.length-(k+1))=l.length by omega,←zfm h]at hr;unfold zhT zaw;rw[hr];simp
def zhy{m:Mn}{l:List Sg}{j:Nat}{zs:List AV}(h:(zhT m l)[j]? =some zs):∃i,(zaw m l)[j]? =some i/\zs=[iv i]:=by
 rw[zhT,jJ]at h;cases Z:(zaw m l)[j]? with
 |none=>simp[Z]at h
 |some k=>simp[Z]at h;exact⟨k,rfl,h.symm⟩
attribute [local irreducible] zaH zP zaw
def zib(m:Mn)(l:List Sg)(hl:l.length<=4000000000):It prog 325 [.ept (λ_:Unit=>[.sl sgE l]) () 0,.ept (λ_:Unit=>mnE m) () 0] (zhT m l):=by
 have x1:(zP m l 0).length=0:=by unfold zP;rfl
 refine bF (ts:=λlY=>[(0,.yv lY),(1,.ept (λ_:Unit=>[.sl sgE l]) () 0),(2,.ept (λ_:Unit=>mnE m) () 0)]) (n:=25) (by kernel_rfl) func325 rfl ntmps325 rfl (λ_=>rfl) (by simp) (λg w d ds Y lY hY=>?_);apply ye;refine yq ?_;apply kA;refine ze (λk=>[(0,.yv lY),(1,.ept (λ_:Unit=>[.sl sgE l]) () 0),(2,.ept (λ_:Unit=>mnE m) () 0),(6,iv l.length),(7,iv (k:Int))]) (λk=>[(1000000,.yld (zP m l k).length true)]) l.length (λk hk=>?_) (h0:=yd);refine gd ?_ ?_<;>intro x0
 ·apply yl;apply yf;apply kA;apply ye;refine yL ?_;apply yf;have H:(decide (m.Pro=2)=false)\/(decide (m.Pro=2)=true/\zaH l (k:Int)=false)\/(decide (m.Pro=2)=true/\zaH l (k:Int)=true):=by cases decide (m.Pro=2)<;>cases zaH l (k:Int)<;>simp
  rcases H with T|⟨T,N⟩|⟨T,N⟩
  ·have U:(decide (m.Pro=2)==true)=false:=by rw[T];rfl
   have Q:zat m l (k:Int)=false:=by unfold zat;rw[T];rfl
   have V:=zgT Q;have Z:=j6 List.length V.symm;apply yj;(iterate 4 refine ya ?_);(iterate 3 refine zbC ?_);(iterate 2 refine ya ?_);(iterate 4 refine zbC ?_);refine gd ?_ ?_<;>intro E
   ·exact absurd E (by decide)
   refine gq ?_;refine yo (k+1)
  ·have U:(decide (m.Pro=2)==true)=true:=by rw[T];rfl
   have J:(zaH l (k:Int)==true)=false:=by rw[N];rfl
   have Q:zat m l (k:Int)=false:=by unfold zat;rw[T,N];rfl
   have V:=zgT Q;have Z:=j6 List.length V.symm;apply yj;(iterate 4 refine ya ?_);iterate 2 refine z6 ?_
   (refine zrH rfl rfl ?_ (zau rfl rfl rfl (kP _) (zgD l hl (k:Int) (by omega) (by omega))) rfl rfl ?_;iterate 1(· first|exact U|assumption|rfl|(simp_all;done)|omega))
   (iterate 2 refine ya ?_);(iterate 4 refine zbC ?_);refine gd ?_ ?_<;>intro xT
   ·exact absurd xT (by decide)
   refine gq ?_;refine yo (k+1)
  ·have U:(decide (m.Pro=2)==true)=true:=by rw[T];rfl
   have J:(zaH l (k:Int)==true)=true:=by rw[N];rfl
   have Q:zat m l (k:Int)=true:=by unfold zat;rw[T,N];rfl
   have V:=zfm Q;have Z:=j6 List.length V;have x4:=zpB (by omega) Q;rw[jI]at Z;apply yj;(iterate 4 refine ya ?_);iterate 2 refine z6 ?_
   (refine zrH rfl rfl ?_ (zau rfl rfl rfl (kP _) (zgD l hl (k:Int) (by omega) (by omega))) rfl rfl ?_;iterate 1(· first|exact U|assumption|rfl|(simp_all;done)|omega))
   (iterate 2 refine ya ?_);(iterate 2 refine z6 ?_);refine zcj hY rfl rfl rfl (λ_=>⟨_,_,rfl,rfl,rfl,kP _,rfl,rfl,x4,λb=>?_⟩) (λh=>absurd (h.symm.trans J) (by decide));refine z6 ?_;refine gd ?_ ?_<;>intro I
   ·subst I;refine kE ?_;refine⟨.inr rfl,_,false,rfl,λhb=>by simp at hb⟩
   subst I;have x2:(zP m l (k+1)).length=(zP m l k).length+1:=Z.symm;clear Z;refine gq ?_;refine yo (k+1)
 ·have x3:k=l.length:=by omega
  subst x3;apply kK;refine⟨.inl rfl,_,true,rfl,λ_=>by unfold zhT zaw;rw[jO]⟩
def zj3(m:Mn)(l:List Sg):Fn prog 293 [mnA m,sgsA l] (.fn 325 [.ept (λ_:Unit=>[.sl sgE l]) () 0,.ept (λ_:Unit=>mnE m) () 0]):=by
 refine kC func293 ntmps293 (λg w d=>?_);refine gq ?_;refine zcK ?_;refine ya ?_;apply yG;refine yL ?_;refine kE ?_;refine k8 ((yR (k:=2) rfl rfl).trans (yR (k:=3) rfl rfl)) ?_;refine gq ?_;all_goals exact zR
end
section
attribute [local irreducible] Pur yA yC Ex X Fn Imp LeV LeB FnO It yH
def zku(m:Mn)(l:List Sg):(zaw m l).length<=l.length:=by unfold zaw;exact zhx m l _
def zpC{α:Type}{a:List α}{j:Nat}{x:α}(h:a[j]? =some x):a.take j++[x]=a.take (j+1):=by
 rw[jA,h];rfl
def znt{m:Mn}{l:List Sg}{k:Int}(h:m.p 4=2/\zaH l k=true):zat m l k=true:=by
 have e:m.p 4=m.Pro:=rfl;rw[e]at h;unfold zat;rw[jH h.1,h.2];rfl
def zpD{m:Mn}{l:List Sg}{k:Int}(h:¬m.p 4=2\/zaH l k=false):zat m l k=false:=by
 have e:m.p 4=m.Pro:=rfl;rw[e]at h;unfold zat;rcases h with h|h
 ·rw[jD h];rfl
 ·rw[h];simp
attribute [local irreducible] zaH zP zaw zat ckD
def zj4(m:Mn)(z:List Sg)(hl:z.length<=1000):FnO prog 249 [mnA m,sgsA z] [] [] (.tup [.own 39,iv (ckD m z)]) [(39,.row intE (if ckD m z=0 then zaw m z else[]) 3 1)]:=by
 refine bB (ts:=[(0,mnA m),(1,sgsA z)]) (rv:=[.tmp 4,.tmp 5]) (n:=24) (cs:=[]) (by kernel_rfl) func249 rfl ntmps249 rfl rfl (by simp) rfl rfl rfl rfl (λg w d vh=>?_);refine gc (zaO m z hl) ?_;refine gd ?_ ?_<;>intro Z
 ·have hE:[]=(if ckD m z=0 then zaw m z else[]):=by rw[j3 Z]
  apply ye;refine yq ?_;refine kE ?_;refine zo8.imp (yE intE 3 1 4 39 rfl rfl) ?_;refine zo8.mk (ts:=[(4,.own 39),(5,iv (ckD m z))]) (.inr rfl) (yd) (.many (by decide) (.cons (.tmp rfl (kB rfl)) (.cons (.tmp rfl (kB rfl)) .nil)))
 have U:=zku m z;apply yl;apply ye;refine zb ?_;apply kL;iterate 2 apply yf
 refine kJ (zbp intE 3 1 7 39 46 rfl rfl) ?_;refine gq ?_;refine yM (zj3 m z) ?_;apply kL;apply kA;have T:[]=(zaw m z).take 0:=by simp
 have Q:(zaw m z).take (zhT m z).length=(if ckD m z=0 then zaw m z else[]):=by
  rw[j4 Z];unfold zhT;rw[jO,j9]
 refine bE (sl:=[7]) (λj=>([.ptr 7 0 0 0],[(1000001,.hold vh []),(7,.box [.own 39] 46),(39,.row intE ((zaw m z).take j) 3 1)])) (λj=>True) 900001 900002 rfl rfl (by decide) (λj zs V=>by obtain⟨i,_,rfl⟩:=zhy V;rfl) (zib m z (by omega)) trivial rfl rfl (by decide) (wH _) (by simp) (λj zs V=>by obtain⟨i,_,rfl⟩:=zhy V;rfl) (λ_=>rfl) rfl rfl (λl o us=>yd) (trivial) (λj zs V hJ l ready busy rb vs g w H N=>?_) (λhJ=>?_)
 ·obtain⟨i,hi,rfl⟩:=zhy V;have J:=zpC hi;have I:((zaw m z).take j).length<=1000:=by simp;omega
  apply yj;refine yi ?_;refine⟨rfl,rfl,?_⟩;refine gq ?_;refine yz intE [_] ?_;iterate 2 refine kI ?_
  apply kL;refine⟨[.ptr 7 0 0 0],[(1000001,.hold vh []),(7,.box [.own 39] 46),(39,.row intE ((zaw m z).take (j+1)) 3 1)],yd,rfl,trivial⟩
 apply ye;refine yq ?_;refine kE ?_;refine zo8.mk (ts:=[(4,.own 39),(5,iv (ckD m z))]) (.inr rfl) (yd) (.many (by decide) (.cons (.tmp rfl (kB rfl)) (.cons (.tmp rfl (kB rfl)) .nil)))
def zfN(m:Mn)(l:List Sg)(hl:l.length<=1000):Fn prog 282 [mnA m,sgsA l] (.tup [yc (if ckD m l=0 then zaw m l else[]),iv (ckD m l)]):=by
 have J:[]=zP m l 0:=by unfold zP;rfl
 have V:zP m l l.length=zaw m l:=by unfold zaw;rfl
 refine kC func282 ntmps282 (λg w d=>?_);refine gc (zH m l hl) ?_;refine gd ?_ ?_<;>intro Z
 ·apply ye;refine yq ?_;refine kE ?_;refine k8 (yd (ts:=[(4,yc []),(5,iv (ckD m l))]) (hs:=[])) ?_;refine yh ?_ ?_;all_goals(first|(rw[j3 Z];done)|rfl|(rw[j4 Z,←V];rfl)|(rw[j4 Z,←V];done)|exact zE Z)
 apply yl;apply ye;refine yi ?_;iterate 2 apply yf
 refine kJ (yE intE 3 1 7 7 rfl rfl) ?_;apply yj;refine yi ?_;apply kA;refine ze (λk=>[(1,sgsA l),(2,.ptr 2 0 0 0),(7,.own 7),(8,iv (k:Int))]) (λk=>[(2,.box (mnE m) 23),(7,.row intE (zP m l k) 3 1)]) l.length (λk H=>?_) (h0:=yd);refine gd ?_ ?_<;>intro I
 ·have N:=zhx m l k;refine gc (zf7 m l (by omega) (k:Int) (by omega) (by omega)) ?_;refine gd ?_ ?_<;>intro U
  ·have T:=zfm (znt U);refine gq ?_;refine yz intE [_] ?_;refine gq ?_;refine yo (k+1)
  ·have T:=zgT (zpD U);refine gq ?_;refine yo (k+1)
 ·have Q:k=l.length:=by omega
  subst Q;apply kK;apply ye;refine yq ?_;refine kE ?_;refine k8 (k9 (k:=7) rfl) ?_;refine yh ?_ ?_;all_goals(first|(rw[j3 Z];done)|rfl|(rw[j4 Z,←V];rfl)|(rw[j4 Z,←V];done)|exact zE Z)
end
section
attribute [local irreducible] Pur yA yC Ex X Fn Imp LeV LeB FnO It yH
attribute [local irreducible] zaH zP zaw zat ckD
def prL(m:Mn)(l:List Sg):List Int:=if ckD m l=0 then zaw m l else[]
def twos(n:Nat):List Int:=List.replicate n 2
def zkv(n:Nat):twos n++[2]=twos (n+1):=by unfold twos;rw[List.replicate_succ']
def zc7(n:Nat):(twos n).length=n:=by unfold twos;simp
def zfn(m:Mn)(l:List Sg):(prL m l).length<=l.length:=by
 unfold prL;split
 ·exact zku m l
 ·simp
def zcr(m:Mn)(l:List Sg)(hl:l.length<=1000):Fn prog 282 [mnA m,sgsA l] (.tup [yc (prL m l),iv (ckD m l)]):=zfN m l hl
attribute [local irreducible] prL twos
def zgj(m:Mn)(l:List Sg)(hl:l.length<=1000):Fn prog 238 [mnA m,sgsA l] (.tup [yc (twos (prL m l).length),iv (ckD m l)]):=by
 have U:[]=twos 0:=by unfold twos;rfl
 have T:=zfn m l;refine kC func238 ntmps238 (λg w d=>?_);refine gq ?_;refine yM (zcr m l hl) ?_;iterate 5 refine ya ?_
 apply yG;refine yi ?_;iterate 2 apply yf
 refine kJ (yE intE 3 1 8 8 rfl rfl) ?_;apply yj;refine yi ?_;apply kA;refine ze (λk=>[(6,yc (prL m l)),(7,iv (ckD m l)),(8,.own 8),(9,iv (k:Int))]) (λk=>[(8,.row intE (twos k) 3 1)]) ((prL m l).length) (λk J=>?_) (h0:=yd);refine gd ?_ ?_<;>intro Q
 ·have V:=zc7 k;have N:=zkv k;refine gq ?_;refine yz intE [_] ?_;refine gq ?_;refine yo (k+1)
 ·have Z:k=(prL m l).length:=by omega
  subst Z;apply kK;apply ye;refine ya ?_;refine yq ?_;refine kE ?_;refine k8 (k9 (k:=8) rfl) ?_;refine yh ?_ ?_;all_goals rfl
end
section
attribute [local irreducible] Pur yA yC Ex X Fn Imp LeV LeB FnO It yH
attribute [local irreducible] zaH zP zaw zat ckD
def zeT(m:Mn)(l:List Sg)(hl:l.length<=1000):FnO prog 249 [mnA m,sgsA l] [] [] (.tup [.own 39,iv (ckD m l)]) [(39,.row intE (prL m l) 3 1)]:=zj4 m l hl
def ruK(p:List Int)(k:Nat):List Int:=twos k++p.drop k
def zs7{p:List Int}{k:Nat}(h:k<=p.length):(ruK p k).length=p.length:=by unfold ruK;rw[jI,zc7,u6];omega
def zs8{p:List Int}{k:Nat}(h:k<p.length):(ruK p k).set k 2=ruK p (k+1):=by
 unfold ruK;rw[vR _ _ (by rw[zc7];omega),zc7,xV,←zkv,uV];congr 1;rw[jG h];rfl
def zzm(p:List Int):p=ruK p 0:=by unfold ruK twos;rfl
def zzn(p:List Int):ruK p p.length=twos p.length:=by unfold ruK;rw[wO,w4]
def znu{m:Mn}{l:List Sg}(h:¬ckD m l=0):prL m l=[]:=by unfold prL;rw[j3 h]
attribute [local irreducible] prL twos ruK
def zln(m:Mn)(l:List Sg)(hl:l.length<=1000):Fn prog 187 [mnA m,sgsA l] (.tup [yc (twos (prL m l).length),iv (ckD m l)]):=by
 have Q:=zzm (prL m l);have V:=zzn (prL m l);have N:=zfn m l;refine kC func187 ntmps187 (λg w d=>?_);refine gq ?_;refine zai [(39,39)] (zeT m l hl) ?_;refine gd ?_ ?_<;>intro Z
 ·have ht:[]=twos (prL m l).length:=by rw[znu Z];unfold twos;rfl
  apply ye;refine yq ?_;refine kE ?_;refine k8 (yd (ts:=[(4,yc []),(5,iv (ckD m l))]) (hs:=[])) ?_;refine yh ?_ ?_;all_goals(first|rfl|exact j6 yc ht|exact j6 yc V|exact j6 (AV.int .i64) Z.symm)
 apply yl;apply yf;apply ye;refine yq ?_;apply kA;refine ze (λk=>[(6,.own 39),(7,iv 0),(19,iv ((prL m l).length:Int)),(20,iv (k:Int))]) (λk=>[(39,.row intE (ruK (prL m l) k) 3 1)]) ((prL m l).length) (λk H=>?_) (h0:=yd);refine gd ?_ ?_<;>intro J
 ·have T:=zs7 (p:=prL m l) (k:=k) (by omega);have I:=zs8 (p:=prL m l) (k:=k) (by omega);refine gq ?_;refine yo (k+1)
 ·have U:k=(prL m l).length:=by omega
  subst U;apply kK;apply ye;refine yq ?_;refine kE ?_;refine k8 (k9 (k:=39) rfl) ?_;refine yh ?_ ?_;all_goals(first|rfl|exact j6 yc ht|exact j6 yc V|exact j6 (AV.int .i64) Z.symm)
end
section
attribute [local irreducible] Pur yA yC Ex X Fn Imp LeV LeB FnO It yH
attribute [local irreducible] zaH zP zaw zat ckD
attribute [local irreducible] prL andI
end
section
section
variable{α:Type}
def zfo{q:Int}:∀(l:List (Int×α))(i:Nat),mix q l i=(mix q l 0).map (λp=>(p.1+i,p.2))
 |[],i=>rfl
 |p::l,i=>by
  unfold mix;by_cases h:p.1=q
  ·simp[h]
  ·rw[j3 h,j3 h,zfo l (i+1),zfo l 1,Option.map_map];congr 1;funext x;simp;omega
def zqX(q:Int):mget q ([]:List (Int×α))=none:=rfl
def zdW(q:Int)(p:Int×α)(l:List (Int×α)):mget q (p::l)=if p.1=q then some p.2 else mget q l:=by
 have e:mix q (p::l) 0=if p.1=q then some (0,p.2)else mix q l 1:=rfl
 unfold mget;rw[e];by_cases h:p.1=q
 ·simp[h]
 ·rw[j3 h,j3 h,zfo l 1,Option.map_map];rfl
def zqY(q:Int)(x:α):mput q x []=[(q,x)]:=rfl
def zpE(q:Int)(x:α)(p:Int×α)(l:List (Int×α)):mput q x (p::l)=if p.1=q then(q,x)::l else p::mput q x l:=by
 unfold mput;by_cases h:p.1=q
 ·simp[mix,h]
 ·have e:mix q (p::l) 0=(mix q l 0).map (λz=>(z.1+1,z.2)):=by
   rw[show mix q (p::l) 0=mix q l 1 by simp[mix,h],zfo l 1]
  rw[e,j3 h];cases mix q l 0 with
  |none=>rfl
  |some z=>rfl
theorem zdX(q q':Int)(x:α):∀l:List (Int×α),mget q (mput q' x l)=if q'=q then some x else mget q l
 |[]=>by rw[zqY,zdW]
 |p::l=>by
  rw[zpE];by_cases h:p.1=q'
  ·rw[j4 h,zdW,zdW];by_cases Z:q'=q
   ·simp[Z]
   ·rw[j3 Z,j3 Z,j3 (by rw[h];exact Z)]
  ·rw[j3 h,zdW,zdW,zdX q q' x l];by_cases Z:p.1=q
   ·rw[j4 Z,j4 Z,j3 (by omega)]
   ·rw[j3 Z,j3 Z]
end
end
section
def zb5(p mi:List Int):Nat->List (Int×Tm)
 |0=>[]
 |k+1=>if mi[k]? =some 2 then mput (p.getD k 0+1) ⟨1,2⟩ (mput (p.getD k 0) ⟨3,2⟩ (zb5 p mi k))else zb5 p mi k
def zpF{p mi:List Int}{k:Nat}{x y:Int}(hx:p[k]? =some x)(Z:mi[k]? =some y)(h:y=2):mput (x+1) ⟨1,2⟩ (mput x ⟨3,2⟩ (zb5 p mi k))=zb5 p mi (k+1):=by
 simp_all[zb5]
def zpG{p mi:List Int}{k:Nat}{y:Int}(Z:mi[k]? =some y)(h:y=1):zb5 p mi k=zb5 p mi (k+1):=by
 simp_all[zb5]
def refT(p mi:List Int)(i:Int)(b:Tm):Nat->Tm
 |0=>b
 |k+1=>if mi[k]? =some 2/\p[k]? =some i then⟨3,2⟩else if mi[k]? =some 2/\p[k]? =some (i-1)then⟨1,2⟩else refT p mi i b k
def zkw(p mi:List Int)(i:Int)(b:Tm):∀k,k<=p.length->refT p mi i b k=(mget i (zb5 p mi k)).getD b
 |0,_=>rfl
 |k+1,h=>by
  obtain⟨x,hx⟩:∃x,p[k]? =some x:=⟨_,lgg (by omega)⟩;have ih:=zkw p mi i b k (by omega)
  grind[refT,zb5,zdX]
def zwN{p mi:List Int}{i x y:Int}{b:Tm}{k:Nat}(hx:p[k]? =some x)(Z:mi[k]? =some y)(h:y=2/\x=i):⟨3,2⟩=refT p mi i b (k+1):=by
 simp_all[refT]
def zwO{p mi:List Int}{i x y:Int}{b:Tm}{k:Nat}(hx:p[k]? =some x)(Z:mi[k]? =some y)(h0:¬y=2\/¬x=i)(h:y=2/\x=i-1):⟨1,2⟩=refT p mi i b (k+1):=by
 simp_all[refT]
def zwP{p mi:List Int}{i x y:Int}{b:Tm}{k:Nat}(hx:p[k]? =some x)(Z:mi[k]? =some y)(h0:¬y=2\/¬x=i)(h:¬y=2\/¬x=i-1):refT p mi i b k=refT p mi i b (k+1):=by
 grind[refT]
def zwQ(p mi:List Int)(i:Int)(b:Tm):b=refT p mi i b 0:=rfl
def bsT(m:Mn)(s:Sg):Tm:=if clr s=true then durT m s.Value else yy m s.Value
def zu9{m:Mn}{s:Sg}(h:clr s=true):durT m s.Value=bsT m s:=by unfold bsT;rw[j4 h]
def zva{m:Mn}{s:Sg}(h:clr s=false):yy m s.Value=bsT m s:=by simp_all[bsT]
def dvK(m:Mn)(l:List Sg)(M:List (Int×Tm)):Nat->List Tm
 |0=>[]
 |k+1=>match l[k]? with
  |some s=>if s.Kind=3 then dvK m l M k else dvK m l M k++[(mget (k:Int) M).getD (bsT m s)]
  |none=>dvK m l M k
def zlo{m:Mn}{l:List Sg}{M:List (Int×Tm)}{k:Nat}{s:Sg}(hs:l[k]? =some s)(h:s.Kind=3):dvK m l M k=dvK m l M (k+1):=by
 simp_all[dvK]
def znv{m:Mn}{l:List Sg}{M:List (Int×Tm)}{k:Nat}{s:Sg}(hs:l[k]? =some s)(h:¬s.Kind=3):dvK m l M k++[(mget (k:Int) M).getD (bsT m s)]=dvK m l M (k+1):=by
 simp_all[dvK]
def zlp(m:Mn)(l:List Sg)(M:List (Int×Tm)):∀k,(dvK m l M k).length<=k
 |0=>jE _
 |k+1=>by
  have:=zlp m l M k
  grind[dvK]
def zwR{M:List (Int×Tm)}{i:Int}{b z:Tm}(h:(mget i M).isSome=true):(mget i M).getD z=(mget i M).getD b:=by
 cases hm:mget i M<;>simp_all
def zqZ{M:List (Int×Tm)}{i:Int}{b:Tm}(h:(mget i M).isSome=false):b=(mget i M).getD b:=by
 simp_all
def mnOk(mi:List Int):Bool:=mi.all λx=>decide (x=1)||decide (x=2)
def duE(m:Mn)(l:List Sg)(mi:List Int):Int:=if ckD m l=0 then(if mi.length=(prL m l).length/\mnOk mi=true then 0 else 2)else ckD m l
def duM(m:Mn)(l:List Sg)(mi:List Int):List (Int×Tm):=zb5 (prL m l) mi (prL m l).length
def duV(m:Mn)(l:List Sg)(mi:List Int):List Tm:=if duE m l mi=0 then dvK m l (duM m l mi) l.length else[]
def zmA{mi:List Int}{k:Nat}{y:Int}(Z:mi[k]? =some y)(V:¬y=1)(U:¬y=2):mnOk mi=false:=by
 cases h:mnOk mi with
 |false=>rfl
 |true=>
  unfold mnOk at h;have:=jF.1 h y (j5 Z)
  grind
def zq0{mi:List Int}(h:∀(j:Nat)y,j<mi.length->mi[j]? =some y->y=1\/y=2):mnOk mi=true:=by
 grind[mnOk,List.mem_iff_getElem?]
def mnK(mi:List Int)(k:Nat):Prop:=∀(j:Nat)y,j<k->mi[j]? =some y->y=1\/y=2
def zvb(mi:List Int):mnK mi 0:=λj y h=>by omega
def zq1{mi:List Int}{k:Nat}{y:Int}(h:mnK mi k)(U:mi[k]? =some y)(hv:y=1\/y=2):mnK mi (k+1):=λj z T V=>by
 rcases wD j k with Z|Z
 ·exact h j z Z V
 grind
def zq2{mi:List Int}(h:mnK mi mi.length):mnOk mi=true:=zq0 λj y Z V=>h j y Z V
def zvc{m:Mn}{l:List Sg}{mi:List Int}(h:¬ckD m l=0):ckD m l=duE m l mi:=by unfold duE;rw[j3 h]
def zvd{m:Mn}{l:List Sg}{mi:List Int}(h:ckD m l=0)(Z:¬mi.length=(prL m l).length):2=duE m l mi:=by simp_all[duE]
def zve{m:Mn}{l:List Sg}{mi:List Int}(h:ckD m l=0)(Z:mnOk mi=false):2=duE m l mi:=by simp_all[duE]
def zvf{m:Mn}{l:List Sg}{mi:List Int}(h:ckD m l=0)(Z:mi.length=(prL m l).length)(V:mnOk mi=true):0=duE m l mi:=by simp_all[duE]
def zkx{m:Mn}{l:List Sg}{mi:List Int}{e:Int}(h:e=duE m l mi)(he:¬e=0):[]=duV m l mi:=by simp_all[duV]
def zvg{m:Mn}{l:List Sg}{mi:List Int}(h:0=duE m l mi):dvK m l (duM m l mi) l.length=duV m l mi:=by simp_all[duV]
def zgk{m:Mn}{l:List Sg}(h:ckD m l=0){k:Nat}{s:Sg}(hs:l[k]? =some s)(Z:¬s.Kind=3):ckM m=0/\1<=s.Value/\s.Value<=8:=by
 have hm:ckM m=0:=by
  unfold ckD at h;split at h
  ·assumption
  ·exact absurd h (by assumption)
 have hf:zas m l 0 l=0:=by unfold ckD at h;rw[j4 hm]at h;exact h
 have V:k<l.length:=(j1.1 hs).1;have U:=(zax hf (k+1) (by omega)).2 k s (by omega) hs;simp_all[sgF];omega
def zi4{m:Mn}{l:List Sg}:∀(k:Nat)(x:Int),x∈zP m l k->0<=x/\x<(k:Int)
 |0,x,h=>by grind[zP]
 |k+1,x,h=>by
  unfold zP at h;split at h
  ·rcases wP.1 h with h|h
   ·have:=zi4 k x h;omega
   ·simp at h;omega
  ·have:=zi4 k x h;omega
def zq3{m:Mn}{l:List Sg}{k:Nat}{x:Int}(h:(prL m l)[k]? =some x):0<=x/\x<(l.length:Int):=by
 unfold prL at h;split at h
 ·unfold zaw at h;exact zi4 _ x (j5 h)
 ·simp at h
end
end Go.Rse
