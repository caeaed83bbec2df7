/-
  Walks.
-/
import Derived.Test.YtamceaedmdmmlaaGreatDoorZJFull1
set_option linter.all false
set_option maxHeartbeats 4000000
namespace Go.Rse
open Go Go.Proofs Go.Proofs.Tryz
attribute [local irreducible] Pur yy yz Ex X Fn Imp LeV LeB FnO It yH
section
def zaR(m:Mn)(v:Int):Fn prog 133 [mnA m,iv v] (.tup [iv (m.aV v),iv (ckMV m v)]):=zfv m v
def zfG(l:List Sg)(k:Nat):Int:=match k with
 |0=>-1
 |j+1=>match l[j]? with|some p=>if p.Kind=3 then-1 else(j:Int)|none=>-1
theorem zkt{L:List Int}{k:Nat}{x v:Int}(h:L[k]? =some x):ownV (L.drop k) v=if x=0\/x=v then x else ownV (L.drop (k+1)) v:=by
 grind[List.drop_eq_getElem_cons,ownV]
def zrt(m:Mn)(s:Sg):1<=(mngR m s).length/\(mngR m s).length<=2:=by
 grind[mngR]
def zku{l:List Sg}{k:Nat}{s:Sg}{α:Type}(f:Int->α)(h:l[k]? =some s)(Z:s.Kind=3):(yS l k).map f++[f k]=(yS l (k+1)).map f:=by
 simp[yS,h,Z]
def zmO{l:List Sg}{k:Nat}{s:Sg}{α:Type}(f:Int->α)(h:l[k]? =some s)(Z:¬s.Kind=3):(yS l k).map f=(yS l (k+1)).map f:=by
 simp[yS,h,Z]
def zwk{m:Mn}{l:List Sg}(h:ckR m l=0){k:Nat}{s:Sg}(hs:l[k]? =some s)(V:s.Kind=3):∃p:Sg,0<k/\l[((k:Int)-1).toNat]? =some p/\zd8 l k=some p/\p.Value<=8:=by
 rw[←zoo]at h;cases k with
 |zero=>
  have:=(zax (zdx h).2 1 (j5.1 hs).1).2 0 s (by omega) hs;simp_all[sgF]
 |succ j=>
  have U:=(j5.1 hs).1;obtain⟨p,Z⟩:∃p,l[j]? =some p:=⟨_,lgg (by omega)⟩;have e:(((j+1:Nat):Int)-1).toNat=j:=by omega
  exact⟨p,by omega,by rw[e];exact Z,by grind[zd8],(zld h hs V Z).2.2.2.1⟩
def ztY{m:Mn}{l:List Sg}{k:Nat}{s:Sg}(hs:l[k]? =some s)(Z:s.Kind=3):
 (zfG l k<0/\sgR m l k s=13)\/(∃p:Sg,0<=zfG l k/\l[(zfG l k).toNat]? =some p/\sgR m l k s=if p.Kind=2/\m.aV p.Value=0 then 13 else 0):=by
 cases k with
 |zero=>simp_all[zfG,sgR]
 |succ j=>
  grind[zfG,sgR]
def zmP{l:List Sg}{k:Nat}(hk:k<l.length):zfG l k=if 0<(k:Int)/\¬(l.getD ((k:Int)-1).toNat default).Kind=3 then(k:Int)-1 else-1:=by
 cases k<;>grind[zfG]
def zru{l:List Sg}{k:Nat}{v:Int}(hk:k<l.length)(hv:v<=8):((k:Int)+1=(l.length:Int)\/v<(l.getD ((k:Int)+1).toNat default).Value)↔ziD l k>v:=by
 grind[ziD]
def zf5(l:List Sg)(k:Nat)(hk:k<l.length)(hl:l.length<=4000000000):Fn prog 132 [sgsA l,iv (k:Int)] (iv (zfG l k)):=by
 refine kR func132 ntmps132 (λg w d=>?_);apply ye;refine yj ?_;apply yh;apply ye;iterate 2 refine ya ?_
 refine kU 2 ?_;refine yo ?_;iterate 7 refine kS ?_
 refine gf ?_ ?_<;>intro Z
 ·have HL:=Z;refine gq ?_;all_goals(congr 1;rw[zmP hk,j6 HL])
 apply yk;apply ye;refine yj ?_;refine kQ ?_;refine zaA ?_;simp_all[zmP];omega
def zgK(l:List Int)(v:Int)(hl:l.length<=4000000000):Fn prog 199 [yc l,iv v] (iv (ownV l v)):=by
 refine kR func199 ntmps199 (λg w d=>?_);refine gq ?_
 refine zen (ι:=Nat) (λ(k:Nat)=>[(0,yc l),(1,iv v),(5,iv (k:Int))]) (λ(k:Nat)=>[]) (λ(k:Nat)=>k<=l.length/\ownV l v=ownV (l.drop k) v) (λ(k:Nat)=>l.length-k) 0 (λk hk=>?_) (hJ:=by
  simp_all)
 obtain⟨V,U⟩:=hk;refine gd ?_ ?_<;>intro T
 ·have Z:=@getX _ l k (by omega);obtain⟨x,hx,N⟩:=Z;apply yk;apply yh;apply kP;apply ye;iterate 5 refine ya ?_
  refine kU 5 ?_;refine yo ?_;iterate 6 refine kS ?_
  refine gf ?_ ?_<;>intro J
  ·apply ye;(iterate 2 refine ya ?_);refine yC ?_;refine kQ ?_;refine zaA ?_;simp_all[zkt]
  refine gq ?_
  refine yu (k+1) (hJ:=by
   grind[zkt])
 ·apply bA;apply ye;refine yj ?_;refine kQ ?_;refine zaA ?_
  grind[ownV]
def za7(m:Mn)(l:List Sg)(hl:l.length<=1000):Fn prog 87 [mnA m,sgsA l] (iv (ckR m l)):=by
 refine kR func87 ntmps87 (λg w d=>?_);refine gc (zn m) ?_;refine gd ?_ ?_<;>intro xT
 ·apply ye;refine yQ ?_;refine kQ ?_;refine zaA ?_;simp_all[ckR]
 refine gq ?_
 refine zen (ι:=Nat) (λ(k:Nat)=>[(1,sgsA l),(2,.ptr 2 0 0 0),(6,iv (k:Int))]) (λ(k:Nat)=>[(2,.box (mnE m) 27)]) (λ(k:Nat)=>k<=l.length/\ckR m l=zcs m l k (l.drop k)) (λ(k:Nat)=>l.length-k) 0 (λk hk=>?_) (hJ:=by
  simp_all[ckR])
 obtain⟨x4,Z⟩:=hk;refine gd ?_ ?_<;>intro x3
 ·have N:=@getX _ l k (by omega);obtain⟨s,hs,x2⟩:=N;refine gd ?_ ?_<;>intro U
  ·refine gd ?_ ?_<;>intro x1
   ·apply ye;(iterate 6 refine ya ?_);refine kU 6 ?_;refine yo ?_;(iterate 6 refine kS ?_);refine gf ?_ ?_<;>intro x0
    ·have V:sgR m l k s=2:=by unfold sgR;rw[j6 (.inl U),j7 (by omega)]
     refine gq ?_;all_goals(rw[Z,zbr hs (by rw[V];decide),V])
    have h0:sgR m l k s=0:=by unfold sgR;rw[j6 (.inl U),j6 (by omega)]
    refine gq ?_;refine yu (k+1) (hJ:=by exact⟨by omega,by rw[Z,zdP hs h0]⟩)
   omega
  ·refine gd ?_ ?_<;>intro J
   ·apply ye;(iterate 6 refine ya ?_);refine kU 6 ?_;refine yo ?_;(iterate 6 refine kS ?_);refine gf ?_ ?_<;>intro w9
    ·have V:sgR m l k s=2:=by unfold sgR;rw[j6 (.inr J),j7 (by omega)]
     apply ye;refine yj ?_;refine kQ ?_;refine zaA ?_;simp_all[zbr]
    have h0:sgR m l k s=0:=by simp_all[sgR]
    refine gq ?_
    refine yu (k+1) (hJ:=by
     grind[zdP])
   ·refine gd ?_ ?_<;>intro H
    ·have G:=ztY (m:=m) hs H;refine gc (zf5 l k (by omega) (by omega)) ?_;refine gd ?_ ?_<;>intro w2
     ·have V:sgR m l k s=13:=by
       rcases G with h|⟨p,h,_⟩
       ·exact h.2
       ·omega
      apply ye;refine yj ?_;refine kQ ?_;refine zaA ?_;simp_all[zbr]
     obtain⟨p,v9,hp,E⟩:∃p:Sg,0<=zfG l k/\l[(zfG l k).toNat]? =some p/\sgR m l k s=if p.Kind=2/\m.aV p.Value=0 then 13 else 0:=by
      grind
     refine gq ?_;refine yW [8,9,50,51,52,53,54,55,56,57,58,59] [0,0,0,6,14,30,63,127,255,255,511,2047] mo ?_;(iterate 6 refine yb ?_);refine yO (zaR m _) ?_;(iterate 5 refine yb ?_);refine yI ?_;apply yE;(iterate 6 refine ya ?_);refine kU 6 ?_;refine yo ?_;(iterate 2 refine kS ?_);refine gf ?_ ?_<;>intro T
     ·have V:sgR m l k s=13:=by rw[E,j6 T]
      apply ye;refine yj ?_;refine kQ ?_;refine zaA ?_;simp_all[zbr]
     have h0:sgR m l k s=0:=by omega
     refine gq ?_
     refine yu (k+1) (hJ:=by
      grind[zdP])
    ·have V:sgR m l k s=8:=by unfold sgR;rw[j7 (by omega),j7 (by omega)]
     apply ye;refine yj ?_;refine kQ ?_;refine zaA ?_;simp_all[zbr]
 ·refine gq ?_;all_goals(rw[Z,wH (by omega)];rfl)
def zbG(m:Mn)(s:Sg):Fn prog 198 [mnA m,sgA s] (yc (mngR m s)):=by
 refine kR func198 ntmps198 (λg w d=>?_);refine gc (zaR m s.Value) ?_;refine gd ?_ ?_<;>intro Z
 ·refine gq ?_;refine yD intE [_] ?_;refine yj ?_;refine kQ ?_;refine kM (kL (k:=19) rfl) ?_;refine gq ?_;all_goals(first|(simp[mngR, *];rfl)|(have h0:¬m.aV s.Value=0:=(by omega);simp[mngR, *];rfl))
 refine gd ?_ ?_<;>intro V
 ·apply ye;refine yD intE [_] ?_;refine yj ?_;refine kQ ?_;refine kM (kL (k:=23) rfl) ?_;refine gq ?_;all_goals(first|(simp[mngR, *];rfl)|(have h0:¬m.aV s.Value=0:=(by omega);simp[mngR, *];rfl))
 refine gq ?_;refine yR (yX m s.Value) ?_;refine ya ?_;refine kU 5 ?_;refine yo ?_;iterate 2 refine kS ?_
 refine gf ?_ ?_<;>intro U
 ·apply ye;refine yD intE [_] ?_;refine yj ?_;refine kQ ?_;refine kM (kL (k:=34) rfl) ?_;refine gq ?_;all_goals(first|(simp[mngR, *];rfl)|(have h0:¬m.aV s.Value=0:=(by omega);simp[mngR, *];rfl))
 refine gc (yX m s.Value) ?_;refine gd ?_ ?_<;>intro T
 ·refine gq ?_;refine yD intE [_,_] ?_;refine yj ?_;refine kQ ?_;refine kM (kL (k:=42) rfl) ?_;refine gq ?_;all_goals(first|(simp[mngR, *];rfl)|(have h0:¬m.aV s.Value=0:=(by omega);simp[mngR, *];rfl))
 refine gd ?_ ?_<;>intro N
 ·refine gq ?_;refine yD intE [_] ?_;refine yj ?_;refine kQ ?_;refine kM (kL (k:=48) rfl) ?_;refine gq ?_;all_goals(first|(simp[mngR, *];rfl)|(have h0:¬m.aV s.Value=0:=(by omega);simp[mngR, *];rfl))
 refine gq ?_;refine yD intE [_,_] ?_;refine yj ?_;refine kQ ?_;refine kM (kL (k:=52) rfl) ?_;refine gq ?_;all_goals(first|(simp[mngR, *];rfl)|(have h0:¬m.aV s.Value=0:=(by omega);simp[mngR, *];rfl))
theorem zdY(m:Mn)(l:List Sg)(hl:l.length<=1000):Fn prog 201 [mnA m,sgsA l] (.tup [zc7 (if ckR m l=0 then mnsR m l else[]),iv (ckR m l)]):=by
 refine kR func201 ntmps201 (λg w d=>?_);refine gc (za7 m l hl) ?_;refine gd ?_ ?_<;>intro Z
 ·apply ye;refine yC ?_;refine kQ ?_;refine kM (yd (ts:=[(4,zc7 []),(5,iv (ckR m l))]) (hs:=[])) ?_;refine yl ?_ ?_;all_goals simp_all
 apply yk;apply ye;refine yj ?_;iterate 2 apply yh
 refine kT (yG zjN 22 1 7 7 rfl rfl) ?_;apply yf;refine yj ?_;apply kP;refine zm (λk=>[(1,sgsA l),(2,.ptr 2 0 0 0),(7,.own 7),(8,iv (k:Int))]) (λk=>[(2,.box (mnE m) 27),(7,.row zjN ((yS l k).map (zgv m l)) 22 1)]) l.length (λk hk=>?_) (h0:=yd);refine gd ?_ ?_<;>intro G
 ·have N:=@getX _ l k (by omega);obtain⟨s,hs,E⟩:=N;have xT:=zbv l k;have x4:((yS l k).map (zgv m l)).length<=1000:=by simp;omega
  refine gd ?_ ?_<;>intro U
  ·obtain⟨p,x3,hp,J,x2⟩:=zwk Z hs U;have V:=zku (zgv m l) hs U;rw[show zgv m l k=mngR m p by unfold zgv;rw[J]]at V;apply yh;refine yW [9,28,29,30,31,32,33,34] [0,0,0,4,14,30,63,127] mo ?_;(iterate 6 refine yb ?_);refine yO (zbG m _) ?_;refine yb ?_;refine yI ?_;refine gq ?_;refine yD zjN [_] ?_;refine gq ?_;refine yu (k+1)
  ·have V:=zmO (zgv m l) hs U;refine gq ?_;refine yu (k+1)
 ·have H:k=l.length:=by omega
  subst H;have T:(yS l l.length).map (zgv m l)=mnsR m l:=rfl;apply bA;apply ye;refine yC ?_;refine kQ ?_;refine kM (kL (k:=7) rfl) ?_;refine yl ?_ ?_;all_goals(first|(simp[Z];done)|(rw[j6 Z,←T];rfl)|(rw[j7 Z])|exact zE Z|rfl)
theorem zf6(m:Mn)(l:List Sg)(hl:l.length<=1000):Fn prog 134 [mnA m,sgsA l] (.tup [yc (if ckR m l=0 then zqH m l else[]),iv (ckR m l)]):=by
 refine kR func134 ntmps134 (λg w d=>?_);refine gc (za7 m l hl) ?_;refine gd ?_ ?_<;>intro V
 ·apply ye;refine yC ?_;refine kQ ?_;refine kM (yd (ts:=[(4,yc []),(5,iv (ckR m l))]) (hs:=[])) ?_;refine yl ?_ ?_;all_goals simp_all
 apply yk;apply ye;refine yj ?_;iterate 2 apply yh
 refine kT (yG intE 3 1 7 7 rfl rfl) ?_;apply yf;refine yj ?_;apply kP;refine zm (λk=>[(1,sgsA l),(2,.ptr 2 0 0 0),(7,.own 7),(8,iv (k:Int))]) (λk=>[(2,.box (mnE m) 27),(7,.row intE ((yS l k).map (zct m l)) 3 1)]) l.length (λk hk=>?_) (h0:=yd);refine gd ?_ ?_<;>intro E
 ·have J:=@getX _ l k (by omega);obtain⟨s,hs,xT⟩:=J;have x4:=zbv l k;have x3:((yS l k).map (zct m l)).length<=1000:=by simp;omega
  refine gd ?_ ?_<;>intro T
  ·have Z:=zmO (zct m l) hs T;refine gq ?_;refine yu (k+1)
  obtain⟨p,x2,hp,H,x1⟩:=zwk V hs T;have Z:=zku (zct m l) hs T;rw[show zct m l k=zbd m l k p by unfold zct;rw[H]]at Z;have x0:=zrt m p;obtain⟨c0,w9⟩:∃c0,(mngR m p)[(0:Int).toNat]? =some c0:=⟨_,lgg (by simp;omega)⟩
  have w2:(mngR m p).headD 0=c0:=by
   cases hq:mngR m p<;>simp_all
  refine gq ?_;refine yW [9,30,31,32,33,34,35,36] [0,0,0,4,14,30,63,127] mo ?_;iterate 6 refine yb ?_
  refine yO (zbG m _) ?_;refine yb ?_;refine yI ?_;refine gq ?_;refine yW [10,11,37,38,39,40,41,42,43,44,45,46,47] [0,0,0,4,14,30,62,127,255,511,511,1023,4095] mo ?_;iterate 7 refine yb ?_
  refine yO (zaR m p.Value) ?_;iterate 5 refine yb ?_
  refine yI ?_;refine gd ?_ ?_<;>intro v9
  ·have U:zbd m l k p=c0:=by simp_all[zbd];omega
   rw[U]at Z;refine gq ?_;refine yD intE [_] ?_;refine gq ?_;refine yu (k+1)
  ·have v8:=zru (k:=k) (v:=p.Value) (by omega:k<l.length) (by omega);apply yh;refine yW [62,63,64,65,66,67,68,69,70,71,72,73,74,75,76,77,78,79,80,81,82] [0,1,0,4,15,31,63,63,191,511,1023,2047,63,63,8255,28735,61503,127039,262143,524287,1048575] mo ?_;(iterate 6 refine yb ?_);(iterate 13 refine kZ ?_);(iterate 2 refine yb ?_);refine yI ?_;refine gd ?_ ?_<;>intro v5
   ·have U:zbd m l k p=ownV (mngR m p) p.Value:=by simp[zbd];omega
    rw[U]at Z;refine gq ?_;refine yR (zgK (mngR m p) p.Value (by omega)) ?_;refine yD intE [_] ?_;refine gq ?_;refine yu (k+1)
   ·have U:zbd m l k p=m.aV p.Value:=by simp[zbd];omega
    rw[U]at Z;refine gq ?_;refine yD intE [_] ?_;refine gq ?_;refine yu (k+1)
 ·have G:k=l.length:=by omega
  subst G;have N:(yS l l.length).map (zct m l)=zqH m l:=rfl;apply bA;apply ye;refine yC ?_;refine kQ ?_;refine kM (kL (k:=7) rfl) ?_;refine yl ?_ ?_;all_goals(first|(simp[V];done)|(rw[j6 V,←N];rfl)|(rw[j7 V])|exact zE V|rfl)
def zcb(m:Mn)(l:List Sg)(hl:l.length<=1000):Fn prog 87 [mnA m,sgsA l] (iv (ckD m l)):=by
 rw[zoo];exact za7 m l hl
def C_tactusref09_Meanings'(m:Mn)(l:List Sg)(hl:l.length<=1000):Fn prog 201 [mnA m,sgsA l] (.tup [zc7 (if ckD m l=0 then mnsD m l else[]),iv (ckD m l)]):=by
 grind[zdY,zoo,zxn]
def zfs(m:Mn)(l:List Sg)(hl:l.length<=1000):Fn prog 134 [mnA m,sgsA l] (.tup [yc (if ckD m l=0 then zi m l else[]),iv (ckD m l)]):=by
 grind[zf6,zoo,zth]
end
section
def zb(m:Mn)(l:List Sg)(i:Int):Bool:=decide (m.Pro=2)&&zau l i
def zk(m:Mn)(l:List Sg):Nat->List Int
 |0=>[]
 |k+1=>if zb m l (k:Int)=true then zk m l k++[(k:Int)]else zk m l k
def zad(m:Mn)(l:List Sg):List Int:=zk m l l.length
def zhH(m:Mn)(l:List Sg):List (List AV):=(zad m l).map λi=>[iv i]
def zcD{m:Mn}{l:List Sg}{k:Nat}(h:zb m l (k:Int)=true):zk m l k++[(k:Int)]=zk m l (k+1):=by
 conv=>rhs;unfold zk
 rw[j6 h]
def zez{m:Mn}{l:List Sg}{k:Nat}(h:zb m l (k:Int)=false):zk m l k=zk m l (k+1):=by
 conv=>rhs;unfold zk
 rw[j7 (by simp[h])]
def zhp(m:Mn)(l:List Sg):∀k,(zk m l k).length<=k
 |0=>jE _
 |k+1=>by
  unfold zk;have:=zhp m l k;split
  ·simp;omega
  ·omega
def zkv{m:Mn}{l:List Sg}(k:Nat):∀d,∃r,zk m l (k+d)=zk m l k++r
 |0=>⟨[],by simp⟩
 |d+1=>by
  obtain⟨r,hr⟩:=zkv (m:=m) (l:=l) k d;show∃r,zk m l ((k+d)+1)=_;by_cases h:zb m l ((k+d:Nat):Int)=true
  ·rw[←zcD h,hr];exact⟨r++[((k+d:Nat):Int)],by simp⟩
  ·rw[←zez (by simpa using h)];exact⟨r,hr⟩
def zp8{m:Mn}{l:List Sg}{k:Nat}(hk:k<l.length)(h:zb m l (k:Int)=true):(zhH m l)[(zk m l k).length]? =some [iv (k:Int)]:=by
 obtain⟨r,hr⟩:=zkv (m:=m) (l:=l) (k+1) (l.length-(k+1));rw[show k+1+(l.length-(k+1))=l.length by omega,←zcD h]at hr;unfold zhH zad;rw[hr];simp
def zhq{m:Mn}{l:List Sg}{j:Nat}{zs:List AV}(h:(zhH m l)[j]? =some zs):∃i,(zad m l)[j]? =some i/\zs=[iv i]:=by
 rw[zhH,jN]at h;cases hk:(zad m l)[j]? with
 |none=>simp[hk]at h
 |some k=>simp[hk]at h;exact⟨k,rfl,h.symm⟩
attribute [local irreducible] zau zk zad
def zhZ(m:Mn)(l:List Sg)(hl:l.length<=4000000000):It prog 251 [.ept (λ_:Unit=>[.sl sgE l]) () 0,.ept (λ_:Unit=>mnE m) () 0] (zhH m l):=by
 have x1:(zk m l 0).length=0:=by unfold zk;rfl
 refine It.intro (ts:=λlY=>[(0,.yv lY),(1,.ept (λ_:Unit=>[.sl sgE l]) () 0),(2,.ept (λ_:Unit=>mnE m) () 0)]) (n:=25) (by kernel_rfl) func251 rfl ntmps251 rfl (λ_=>rfl) (by simp) (λg w d ds Y lY hY=>?_);apply ye;refine yC ?_;apply kP;refine zm (λk=>[(0,.yv lY),(1,.ept (λ_:Unit=>[.sl sgE l]) () 0),(2,.ept (λ_:Unit=>mnE m) () 0),(6,iv l.length),(7,iv (k:Int))]) (λk=>[(1000000,.yld (zk m l k).length true)]) l.length (λk hk=>?_) (h0:=yd);refine gd ?_ ?_<;>intro x0
 ·apply yk;apply yh;apply kP;apply ye;refine yQ ?_;apply yh;have G:(decide (m.Pro=2)=false)\/(decide (m.Pro=2)=true/\zau l (k:Int)=false)\/(decide (m.Pro=2)=true/\zau l (k:Int)=true):=by cases decide (m.Pro=2)<;>cases zau l (k:Int)<;>simp
  rcases G with T|⟨T,N⟩|⟨T,N⟩
  ·have U:(decide (m.Pro=2)==true)=false:=by rw[T];rfl
   have hn:zb m l (k:Int)=false:=by unfold zb;rw[T];rfl
   have V:=zez hn;have Z:=j9 List.length V.symm;apply yf;(iterate 4 refine ya ?_);(iterate 3 refine zbQ ?_);(iterate 2 refine ya ?_);(iterate 4 refine zbQ ?_);refine gd ?_ ?_<;>intro E
   ·exact absurd E (by decide)
   refine gq ?_;refine yu (k+1)
  ·have U:(decide (m.Pro=2)==true)=true:=by rw[T];rfl
   have J:(zau l (k:Int)==true)=false:=by rw[N];rfl
   have hn:zb m l (k:Int)=false:=by unfold zb;rw[T,N];rfl
   have V:=zez hn;have Z:=j9 List.length V.symm;apply yf;(iterate 4 refine ya ?_);iterate 2 refine z8 ?_
   (refine zss rfl rfl ?_ (z7 rfl rfl rfl (bC _) (zgu l hl (k:Int) (by omega) (by omega))) rfl rfl ?_;iterate 1(· first|exact U|assumption|rfl|(simp_all;done)|omega))
   (iterate 2 refine ya ?_);(iterate 4 refine zbQ ?_);refine gd ?_ ?_<;>intro xT
   ·exact absurd xT (by decide)
   refine gq ?_;refine yu (k+1)
  ·have U:(decide (m.Pro=2)==true)=true:=by rw[T];rfl
   have J:(zau l (k:Int)==true)=true:=by rw[N];rfl
   have hn:zb m l (k:Int)=true:=by unfold zb;rw[T,N];rfl
   have V:=zcD hn;have Z:=j9 List.length V;have x4:=zp8 (by omega) hn;rw[jC]at Z;apply yf;(iterate 4 refine ya ?_);iterate 2 refine z8 ?_
   (refine zss rfl rfl ?_ (z7 rfl rfl rfl (bC _) (zgu l hl (k:Int) (by omega) (by omega))) rfl rfl ?_;iterate 1(· first|exact U|assumption|rfl|(simp_all;done)|omega))
   (iterate 2 refine ya ?_);(iterate 2 refine z8 ?_);refine zb6 hY rfl rfl rfl (λ_=>⟨_,_,rfl,rfl,rfl,bC _,rfl,rfl,x4,λb=>?_⟩) (λh=>absurd (h.symm.trans J) (by decide));refine z8 ?_;refine gd ?_ ?_<;>intro H
   ·subst H;refine kQ ?_;refine⟨.inr rfl,_,false,rfl,λhb=>by simp at hb⟩
   subst H;have x2:(zk m l (k+1)).length=(zk m l k).length+1:=Z.symm;clear Z;refine gq ?_;refine yu (k+1)
 ·have x3:k=l.length:=by omega
  subst x3;apply bA;refine⟨.inl rfl,_,true,rfl,λ_=>by unfold zhH zad;rw[jS]⟩
def zjX(m:Mn)(l:List Sg):Fn prog 216 [mnA m,sgsA l] (.fn 251 [.ept (λ_:Unit=>[.sl sgE l]) () 0,.ept (λ_:Unit=>mnE m) () 0]):=by
 refine kR func216 ntmps216 (λg w d=>?_);refine gq ?_;refine ze0 ?_;refine ya ?_;apply yE;refine yQ ?_;refine kQ ?_;refine kM ((yY (k:=2) rfl rfl).trans (yY (k:=3) rfl rfl)) ?_;refine gq ?_;all_goals exact zR
end
section
def zkw(m:Mn)(l:List Sg):(zad m l).length<=l.length:=by unfold zad;exact zhp m l _
def zp9{α:Type}{a:List α}{j:Nat}{x:α}(h:a[j]? =some x):a.take j++[x]=a.take (j+1):=by
 rw[jG,h];rfl
def znI{m:Mn}{l:List Sg}{k:Int}(h:m.p 4=2/\zau l k=true):zb m l k=true:=by
 have e:m.p 4=m.Pro:=rfl;rw[e]at h;unfold zb;rw[jJ h.1,h.2];rfl
def zqa{m:Mn}{l:List Sg}{k:Int}(h:¬m.p 4=2\/zau l k=false):zb m l k=false:=by
 have e:m.p 4=m.Pro:=rfl;rw[e]at h;unfold zb;rcases h with h|h
 ·rw[jH h];rfl
 ·rw[h];simp
attribute [local irreducible] zau zk zad zb ckD
def zjY(m:Mn)(z:List Sg)(hl:z.length<=1000):FnO prog 151 [mnA m,sgsA z] [] [] (.tup [.own 39,iv (ckD m z)]) [(39,.row intE (if ckD m z=0 then zad m z else[]) 3 1)]:=by
 refine bP (ts:=[(0,mnA m),(1,sgsA z)]) (rv:=[.tmp 4,.tmp 5]) (n:=24) (cs:=[]) (by kernel_rfl) func151 rfl ntmps151 rfl rfl (by simp) rfl rfl rfl rfl (λg w d vh=>?_);refine gc (zce m z hl) ?_;refine gd ?_ ?_<;>intro Z
 ·have hE:[]=(if ckD m z=0 then zad m z else[]):=by rw[j7 Z]
  apply ye;refine yC ?_;refine kQ ?_;refine zpx.imp (yG intE 3 1 4 39 rfl rfl) ?_;refine zpx.mk (ts:=[(4,.own 39),(5,iv (ckD m z))]) (.inr rfl) (yd) (.many (by decide) (.cons (.tmp rfl (kO rfl)) (.cons (.tmp rfl (kO rfl)) .nil)))
 have U:=zkw m z;apply yk;apply ye;refine za ?_;apply kW;iterate 2 apply yh
 refine kT (zbo intE 3 1 7 39 22 rfl rfl) ?_;refine gq ?_;refine yR (zjX m z) ?_;apply kW;apply kP;have T:[]=(zad m z).take 0:=by simp
 have N:(zad m z).take (zhH m z).length=(if ckD m z=0 then zad m z else[]):=by
  rw[j6 Z];unfold zhH;rw[jS,jK]
 refine X.range (sl:=[7]) (λj=>([.ptr 7 0 0 0],[(1000001,.hold vh []),(7,.box [.own 39] 22),(39,.row intE ((zad m z).take j) 3 1)])) (λj=>True) 900001 900002 rfl rfl (by decide) (λj zs V=>by obtain⟨i,_,rfl⟩:=zhq V;rfl) (zhZ m z (by omega)) trivial rfl rfl (by decide) (wK _) (by simp) (λj zs V=>by obtain⟨i,_,rfl⟩:=zhq V;rfl) (λ_=>rfl) rfl rfl (λl o us=>yd) (trivial) (λj zs V hJ l ready busy rb vs g w E J=>?_) (λhJ=>?_)
 ·obtain⟨i,hi,rfl⟩:=zhq V;have H:=zp9 hi;have G:((zad m z).take j).length<=1000:=by simp;omega
  apply yf;refine yj ?_;refine⟨rfl,rfl,?_⟩;refine gq ?_;refine yD intE [_] ?_;iterate 2 refine kV ?_
  apply kW;refine⟨[.ptr 7 0 0 0],[(1000001,.hold vh []),(7,.box [.own 39] 22),(39,.row intE ((zad m z).take (j+1)) 3 1)],yd,rfl,trivial⟩
 apply ye;refine yC ?_;refine kQ ?_;refine zpx.mk (ts:=[(4,.own 39),(5,iv (ckD m z))]) (.inr rfl) (yd) (.many (by decide) (.cons (.tmp rfl (kO rfl)) (.cons (.tmp rfl (kO rfl)) .nil)))
def zft(m:Mn)(l:List Sg)(hl:l.length<=1000):Fn prog 200 [mnA m,sgsA l] (.tup [yc (if ckD m l=0 then zad m l else[]),iv (ckD m l)]):=by
 have H:[]=zk m l 0:=by unfold zk;rfl
 have V:zk m l l.length=zad m l:=by unfold zad;rfl
 refine kR func200 ntmps200 (λg w d=>?_);refine gc (zcb m l hl) ?_;refine gd ?_ ?_<;>intro Z
 ·apply ye;refine yC ?_;refine kQ ?_;refine kM (yd (ts:=[(4,yc []),(5,iv (ckD m l))]) (hs:=[])) ?_;refine yl ?_ ?_;all_goals(first|(rw[j7 Z];done)|rfl|(rw[j6 Z,←V];rfl)|(rw[j6 Z,←V];done)|exact zE Z)
 apply yk;apply ye;refine yj ?_;iterate 2 apply yh
 refine kT (yG intE 3 1 7 7 rfl rfl) ?_;apply yf;refine yj ?_;apply kP;refine zm (λk=>[(1,sgsA l),(2,.ptr 2 0 0 0),(7,.own 7),(8,iv (k:Int))]) (λk=>[(2,.box (mnE m) 27),(7,.row intE (zk m l k) 3 1)]) l.length (λk hk=>?_) (h0:=yd);refine gd ?_ ?_<;>intro G
 ·have J:=zhp m l k;refine gc (zfU m l (by omega) (k:Int) (by omega) (by omega)) ?_;refine gd ?_ ?_<;>intro U
  ·have T:=zcD (znI U);refine gq ?_;refine yD intE [_] ?_;refine gq ?_;refine yu (k+1)
  ·have T:=zez (zqa U);refine gq ?_;refine yu (k+1)
 ·have N:k=l.length:=by omega
  subst N;apply bA;apply ye;refine yC ?_;refine kQ ?_;refine kM (kL (k:=7) rfl) ?_;refine yl ?_ ?_;all_goals(first|(rw[j7 Z];done)|rfl|(rw[j6 Z,←V];rfl)|(rw[j6 Z,←V];done)|exact zE Z)
end
section
attribute [local irreducible] zau zk zad zb ckD
def prL(m:Mn)(l:List Sg):List Int:=if ckD m l=0 then zad m l else[]
def twos(n:Nat):List Int:=List.replicate n 2
def zkx(n:Nat):twos n++[2]=twos (n+1):=by unfold twos;rw[List.replicate_succ']
def zcc(n:Nat):(twos n).length=n:=by unfold twos;simp
def zdZ(m:Mn)(l:List Sg):(prL m l).length<=l.length:=by
 unfold prL;split
 ·exact zkw m l
 ·simp
def zcd(m:Mn)(l:List Sg)(hl:l.length<=1000):Fn prog 200 [mnA m,sgsA l] (.tup [yc (prL m l),iv (ckD m l)]):=zft m l hl
attribute [local irreducible] prL twos
def zf7(m:Mn)(l:List Sg)(hl:l.length<=1000):Fn prog 135 [mnA m,sgsA l] (.tup [yc (twos (prL m l).length),iv (ckD m l)]):=by
 have U:[]=twos 0:=by unfold twos;rfl
 have T:=zdZ m l;refine kR func135 ntmps135 (λg w d=>?_);refine gq ?_;refine yR (zcd m l hl) ?_;iterate 5 refine ya ?_
 apply yE;refine yj ?_;iterate 2 apply yh
 refine kT (yG intE 3 1 8 8 rfl rfl) ?_;apply yf;refine yj ?_;apply kP;refine zm (λk=>[(6,yc (prL m l)),(7,iv (ckD m l)),(8,.own 8),(9,iv (k:Int))]) (λk=>[(8,.row intE (twos k) 3 1)]) ((prL m l).length) (λk hk=>?_) (h0:=yd);refine gd ?_ ?_<;>intro N
 ·have V:=zcc k;have J:=zkx k;refine gq ?_;refine yD intE [_] ?_;refine gq ?_;refine yu (k+1)
 ·have Z:k=(prL m l).length:=by omega
  subst Z;apply bA;apply ye;refine ya ?_;refine yC ?_;refine kQ ?_;refine kM (kL (k:=8) rfl) ?_;refine yl ?_ ?_;all_goals rfl
end
section
attribute [local irreducible] zau zk zad zb ckD
def zeA(m:Mn)(l:List Sg)(hl:l.length<=1000):FnO prog 151 [mnA m,sgsA l] [] [] (.tup [.own 39,iv (ckD m l)]) [(39,.row intE (prL m l) 3 1)]:=zjY m l hl
def ruK(p:List Int)(k:Nat):List Int:=twos k++p.drop k
def ztZ{p:List Int}{k:Nat}(h:k<=p.length):(ruK p k).length=p.length:=by unfold ruK;rw[jC,zcc,u7];omega
def zt0{p:List Int}{k:Nat}(h:k<p.length):(ruK p k).set k 2=ruK p (k+1):=by
 unfold ruK;rw[xU _ _ (by rw[zcc];omega),zcc,Nat.sub_self,←zkx,uB];congr 1;rw[jL h];rfl
def zAR(p:List Int):p=ruK p 0:=by unfold ruK twos;rfl
def zAS(p:List Int):ruK p p.length=twos p.length:=by unfold ruK;rw[wT,wO]
def znJ{m:Mn}{l:List Sg}(h:¬ckD m l=0):prL m l=[]:=by unfold prL;rw[j7 h]
attribute [local irreducible] prL twos ruK
def zlz(m:Mn)(l:List Sg)(hl:l.length<=1000):Fn prog 100 [mnA m,sgsA l] (.tup [yc (twos (prL m l).length),iv (ckD m l)]):=by
 have N:=zAR (prL m l);have V:=zAS (prL m l);have J:=zdZ m l;refine kR func100 ntmps100 (λg w d=>?_);refine gq ?_;refine zZ [(39,39)] (zeA m l hl) ?_;refine gd ?_ ?_<;>intro Z
 ·have ht:[]=twos (prL m l).length:=by rw[znJ Z];unfold twos;rfl
  apply ye;refine yC ?_;refine kQ ?_;refine kM (yd (ts:=[(4,yc []),(5,iv (ckD m l))]) (hs:=[])) ?_;refine yl ?_ ?_;all_goals(first|rfl|exact j9 yc ht|exact j9 yc V|exact j9 (AV.int .i64) Z.symm)
 apply yk;apply yh;apply ye;refine yC ?_;apply kP;refine zm (λk=>[(6,.own 39),(7,iv 0),(19,iv ((prL m l).length:Int)),(20,iv (k:Int))]) (λk=>[(39,.row intE (ruK (prL m l) k) 3 1)]) ((prL m l).length) (λk hk=>?_) (h0:=yd);refine gd ?_ ?_<;>intro H
 ·have T:=ztZ (p:=prL m l) (k:=k) (by omega);have G:=zt0 (p:=prL m l) (k:=k) (by omega);refine gq ?_;refine yu (k+1)
 ·have U:k=(prL m l).length:=by omega
  subst U;apply bA;apply ye;refine yC ?_;refine kQ ?_;refine kM (kL (k:=39) rfl) ?_;refine yl ?_ ?_;all_goals(first|rfl|exact j9 yc ht|exact j9 yc V|exact j9 (AV.int .i64) Z.symm)
end
section
attribute [local irreducible] zau zk zad zb ckD
attribute [local irreducible] prL andI
end
section
section
variable{α:Type}
def zff{q:Int}:∀(l:List (Int×α))(i:Nat),mix q l i=(mix q l 0).map (λp=>(p.1+i,p.2))
 |[],i=>rfl
 |p::l,i=>by
  unfold mix;by_cases h:p.1=q
  ·simp[h]
  ·rw[j7 h,j7 h,zff l (i+1),zff l 1,Option.map_map];congr 1;funext x;simp;omega
def zmQ(q:Int):mget q ([]:List (Int×α))=none:=rfl
def zdE(q:Int)(p:Int×α)(l:List (Int×α)):mget q (p::l)=if p.1=q then some p.2 else mget q l:=by
 have e:mix q (p::l) 0=if p.1=q then some (0,p.2)else mix q l 1:=rfl
 unfold mget;rw[e];by_cases h:p.1=q
 ·simp[h]
 ·rw[j7 h,j7 h,zff l 1,Option.map_map];rfl
def zrv(q:Int)(x:α):mput q x []=[(q,x)]:=rfl
def zqb(q:Int)(x:α)(p:Int×α)(l:List (Int×α)):mput q x (p::l)=if p.1=q then(q,x)::l else p::mput q x l:=by
 unfold mput;by_cases h:p.1=q
 ·simp[mix,h]
 ·have e:mix q (p::l) 0=(mix q l 0).map (λz=>(z.1+1,z.2)):=by
   rw[show mix q (p::l) 0=mix q l 1 by simp[mix,h],zff l 1]
  rw[e,j7 h];cases mix q l 0 with
  |none=>rfl
  |some z=>rfl
theorem zaq(q q':Int)(x:α):∀l:List (Int×α),mget q (mput q' x l)=if q'=q then some x else mget q l
 |[]=>by rw[zrv,zdE]
 |p::l=>by
  rw[zqb];by_cases h:p.1=q'
  ·rw[j6 h,zdE,zdE];by_cases Z:q'=q
   ·simp[Z]
   ·rw[j7 Z,j7 Z,j7 (by rw[h];exact Z)]
  ·rw[j7 h,zdE,zdE,zaq q q' x l];by_cases Z:p.1=q
   ·rw[j6 Z,j6 Z,j7 (by omega)]
   ·rw[j7 Z,j7 Z]
end
end
section
def zaE(p mi:List Int):Nat->List (Int×Tm)
 |0=>[]
 |k+1=>if mi[k]? =some 2 then mput (p.getD k 0+1) ⟨1,2⟩ (mput (p.getD k 0) ⟨3,2⟩ (zaE p mi k))else zaE p mi k
def zcv{α:Type}{l:List α}{k:Nat}{x d:α}(h:l[k]? =some x):l.getD k d=x:=by
 simp_all
def zqc{p mi:List Int}{k:Nat}{x y:Int}(hx:p[k]? =some x)(Z:mi[k]? =some y)(h:y=2):mput (x+1) ⟨1,2⟩ (mput x ⟨3,2⟩ (zaE p mi k))=zaE p mi (k+1):=by
 simp_all[zaE]
def zqd{p mi:List Int}{k:Nat}{y:Int}(Z:mi[k]? =some y)(h:y=1):zaE p mi k=zaE p mi (k+1):=by
 simp_all[zaE]
def refT(p mi:List Int)(i:Int)(b:Tm):Nat->Tm
 |0=>b
 |k+1=>if mi[k]? =some 2/\p[k]? =some i then⟨3,2⟩else if mi[k]? =some 2/\p[k]? =some (i-1)then⟨1,2⟩else refT p mi i b k
def zky(p mi:List Int)(i:Int)(b:Tm):∀k,k<=p.length->refT p mi i b k=(mget i (zaE p mi k)).getD b
 |0,_=>rfl
 |k+1,h=>by
  obtain⟨x,hx⟩:∃x,p[k]? =some x:=⟨_,lgg (by omega)⟩;have ih:=zky p mi i b k (by omega)
  grind[refT,zaE,zaq]
def zya{p mi:List Int}{i x y:Int}{b:Tm}{k:Nat}(hx:p[k]? =some x)(Z:mi[k]? =some y)(h:y=2/\x=i):⟨3,2⟩=refT p mi i b (k+1):=by
 simp_all[refT]
def zyb{p mi:List Int}{i x y:Int}{b:Tm}{k:Nat}(hx:p[k]? =some x)(Z:mi[k]? =some y)(h0:¬y=2\/¬x=i)(h:y=2/\x=i-1):⟨1,2⟩=refT p mi i b (k+1):=by
 simp_all[refT]
def zyc{p mi:List Int}{i x y:Int}{b:Tm}{k:Nat}(hx:p[k]? =some x)(Z:mi[k]? =some y)(h0:¬y=2\/¬x=i)(h:¬y=2\/¬x=i-1):refT p mi i b k=refT p mi i b (k+1):=by
 grind[refT]
def zyd(p mi:List Int)(i:Int)(b:Tm):b=refT p mi i b 0:=rfl
def bsT(m:Mn)(s:Sg):Tm:=if clr s=true then durT m s.Value else yw m s.Value
def zwl{m:Mn}{s:Sg}(h:clr s=true):durT m s.Value=bsT m s:=by unfold bsT;rw[j6 h]
def zwm{m:Mn}{s:Sg}(h:clr s=false):yw m s.Value=bsT m s:=by simp_all[bsT]
def dvK(m:Mn)(l:List Sg)(M:List (Int×Tm)):Nat->List Tm
 |0=>[]
 |k+1=>match l[k]? with
  |some s=>if s.Kind=3 then dvK m l M k else dvK m l M k++[(mget (k:Int) M).getD (bsT m s)]
  |none=>dvK m l M k
def zlA{m:Mn}{l:List Sg}{M:List (Int×Tm)}{k:Nat}{s:Sg}(hs:l[k]? =some s)(h:s.Kind=3):dvK m l M k=dvK m l M (k+1):=by
 simp_all[dvK]
def znK{m:Mn}{l:List Sg}{M:List (Int×Tm)}{k:Nat}{s:Sg}(hs:l[k]? =some s)(h:¬s.Kind=3):dvK m l M k++[(mget (k:Int) M).getD (bsT m s)]=dvK m l M (k+1):=by
 simp_all[dvK]
def zlB(m:Mn)(l:List Sg)(M:List (Int×Tm)):∀k,(dvK m l M k).length<=k
 |0=>jE _
 |k+1=>by
  have:=zlB m l M k
  grind[dvK]
def zye{M:List (Int×Tm)}{i:Int}{b z:Tm}(h:(mget i M).isSome=true):(mget i M).getD z=(mget i M).getD b:=by
 cases hm:mget i M<;>simp_all
def zrw{M:List (Int×Tm)}{i:Int}{b:Tm}(h:(mget i M).isSome=false):b=(mget i M).getD b:=by
 simp_all
def mnOk(mi:List Int):Bool:=mi.all λx=>decide (x=1)||decide (x=2)
def duE(m:Mn)(l:List Sg)(mi:List Int):Int:=if ckD m l=0 then(if mi.length=(prL m l).length/\mnOk mi=true then 0 else 2)else ckD m l
def duM(m:Mn)(l:List Sg)(mi:List Int):List (Int×Tm):=zaE (prL m l) mi (prL m l).length
def duV(m:Mn)(l:List Sg)(mi:List Int):List Tm:=if duE m l mi=0 then dvK m l (duM m l mi) l.length else[]
def zmR{mi:List Int}{k:Nat}{y:Int}(Z:mi[k]? =some y)(h1:¬y=1)(V:¬y=2):mnOk mi=false:=by
 cases h:mnOk mi with
 |false=>rfl
 |true=>
  unfold mnOk at h;have:=jF.1 h y (j8 Z)
  grind
def zrx{mi:List Int}(h:∀(j:Nat)y,j<mi.length->mi[j]? =some y->y=1\/y=2):mnOk mi=true:=by
 grind[mnOk,List.mem_iff_getElem?]
def mnK(mi:List Int)(k:Nat):Prop:=∀(j:Nat)y,j<k->mi[j]? =some y->y=1\/y=2
def zwn(mi:List Int):mnK mi 0:=λj y h=>by omega
def zry{mi:List Int}{k:Nat}{y:Int}(h:mnK mi k)(V:mi[k]? =some y)(hv:y=1\/y=2):mnK mi (k+1):=λj z U Z=>by
 rcases wD j k with h1|h1
 ·exact h j z h1 Z
 grind
def zrz{mi:List Int}(h:mnK mi mi.length):mnOk mi=true:=zrx λj y Z V=>h j y Z V
def zwo{m:Mn}{l:List Sg}{mi:List Int}(h:¬ckD m l=0):ckD m l=duE m l mi:=by unfold duE;rw[j7 h]
def zwp{m:Mn}{l:List Sg}{mi:List Int}(h:ckD m l=0)(Z:¬mi.length=(prL m l).length):2=duE m l mi:=by simp_all[duE]
def zwq{m:Mn}{l:List Sg}{mi:List Int}(h:ckD m l=0)(Z:mnOk mi=false):2=duE m l mi:=by simp_all[duE]
def zwr{m:Mn}{l:List Sg}{mi:List Int}(h:ckD m l=0)(h1:mi.length=(prL m l).length)(Z:mnOk mi=true):0=duE m l mi:=by simp_all[duE]
def zkz{m:Mn}{l:List Sg}{mi:List Int}{e:Int}(h:e=duE m l mi)(he:¬e=0):[]=duV m l mi:=by simp_all[duV]
def zws{m:Mn}{l:List Sg}{mi:List Int}(h:0=duE m l mi):dvK m l (duM m l mi) l.length=duV m l mi:=by simp_all[duV]
def zb0{m:Mn}{l:List Sg}(h:ckD m l=0){k:Nat}{s:Sg}(hs:l[k]? =some s)(Z:¬s.Kind=3):ckM m=0/\1<=s.Value/\s.Value<=8:=by
 have hm:ckM m=0:=by
  unfold ckD at h;split at h
  ·assumption
  ·exact absurd h (by assumption)
 have hf:zar m l 0 l=0:=by unfold ckD at h;rw[j6 hm]at h;exact h
 have hk:k<l.length:=(j5.1 hs).1;have V:=(zax hf (k+1) (by omega)).2 k s (by omega) hs;simp_all[sgF];omega
def ziV{m:Mn}{l:List Sg}:∀(k:Nat)(x:Int),x∈zk m l k->0<=x/\x<(k:Int)
 |0,x,h=>by grind[zk]
 |k+1,x,h=>by
  unfold zk at h;split at h
  ·rcases jY.1 h with h|h
   ·have:=ziV k x h;omega
   ·simp at h;omega
  ·have:=ziV k x h;omega
def zrA{m:Mn}{l:List Sg}{k:Nat}{x:Int}(h:(prL m l)[k]? =some x):0<=x/\x<(l.length:Int):=by
 unfold prL at h;split at h
 ·unfold zad at h;exact ziV _ x (j8 h)
 ·simp at h
end
end Go.Rse
