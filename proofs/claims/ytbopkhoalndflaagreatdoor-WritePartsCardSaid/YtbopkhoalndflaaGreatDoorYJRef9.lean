/-
  Walks.
-/
import Derived.Test.YtbopkhoalndflaaGreatDoorYJDot9
set_option linter.all false
namespace Go.Rse
open Go Go.Proofs Go.Proofs.Tryz
section
attribute [local irreducible] Pur yA yC Ex X Fn Imp LeV LeB FnO It yH
def zaL(m:Mn)(v:Int):Fn prog 132 [mnA m,iv v] (.tup [iv (m.aV v),iv (ckMV m v)]):=zft m v
def zfA(l:List Sg)(k:Nat):Int:=match k with
 |0=>-1
 |j+1=>match l[j]? with|some p=>if p.Kind=3 then-1 else(j:Int)|none=>-1
theorem zjQ{L:List Int}{k:Nat}{x v:Int}(h:L[k]? =some x):ownV (L.drop k) v=if x=0\/x=v then x else ownV (L.drop (k+1)) v:=by
 grind[List.drop_eq_getElem_cons,ownV]
def zqn(m:Mn)(s:Sg):1<=(mngR m s).length/\(mngR m s).length<=2:=by
 grind[mngR]
def zjR{l:List Sg}{k:Nat}{s:Sg}{α:Type}(f:Int->α)(h:l[k]? =some s)(Z:s.Kind=3):(yV l k).map f++[f k]=(yV l (k+1)).map f:=by
 simp[yV,h,Z]
def zl4{l:List Sg}{k:Nat}{s:Sg}{α:Type}(f:Int->α)(h:l[k]? =some s)(Z:¬s.Kind=3):(yV l k).map f=(yV l (k+1)).map f:=by
 simp[yV,h,Z]
def zuI{m:Mn}{l:List Sg}(h:ckR m l=0){k:Nat}{s:Sg}(hs:l[k]? =some s)(V:s.Kind=3):∃p:Sg,0<k/\l[((k:Int)-1).toNat]? =some p/\zem l k=some p/\p.Value<=8:=by
 rw[←znp]at h;cases k with
 |zero=>
  have:=(zar (zeo h).2 1 (j1.1 hs).1).2 0 s (by omega) hs;simp_all[sgF]
 |succ j=>
  have U:=(j1.1 hs).1;obtain⟨p,Z⟩:∃p,l[j]? =some p:=⟨_,lgg (by omega)⟩;have e:(((j+1:Nat):Int)-1).toNat=j:=by omega
  exact⟨p,by omega,by rw[e];exact Z,by grind[zem],(zko h hs V Z).2.2.2.1⟩
def zsC{m:Mn}{l:List Sg}{k:Nat}{s:Sg}(hs:l[k]? =some s)(Z:s.Kind=3):
 (zfA l k<0/\sgR m l k s=13)\/(∃p:Sg,0<=zfA l k/\l[(zfA l k).toNat]? =some p/\sgR m l k s=if p.Kind=2/\m.aV p.Value=0 then 13 else 0):=by
 cases k with
 |zero=>simp_all[zfA,sgR]
 |succ j=>
  grind[zfA,sgR]
def zl5{l:List Sg}{k:Nat}(Z:k<l.length):zfA l k=if 0<(k:Int)/\¬(l.getD ((k:Int)-1).toNat default).Kind=3 then(k:Int)-1 else-1:=by
 cases k<;>grind[zfA]
def zqo{l:List Sg}{k:Nat}{v:Int}(Z:k<l.length)(hv:v<=8):((k:Int)+1=(l.length:Int)\/v<(l.getD ((k:Int)+1).toNat default).Value)↔zie l k>v:=by
 grind[zie]
def zfV(l:List Sg)(k:Nat)(V:k<l.length)(hl:l.length<=4000000000):Fn prog 131 [sgsA l,iv (k:Int)] (iv (zfA l k)):=by
 refine kF func131 ntmps131 (λg w d=>?_);apply ye;refine yh ?_;apply yf;apply ye;iterate 2 refine ya ?_
 refine kI 2 ?_;refine yp ?_;iterate 7 refine kG ?_
 refine gf ?_ ?_<;>intro Z
 ·have HL:=Z;refine gq ?_;all_goals(congr 1;rw[zl5 V,j3 HL])
 apply yk;apply ye;refine yh ?_;refine kE ?_;refine zav ?_;simp_all[zl5];omega
def zgw(l:List Int)(v:Int)(hl:l.length<=4000000000):Fn prog 281 [yc l,iv v] (iv (ownV l v)):=by
 refine kF func281 ntmps281 (λg w d=>?_);refine gq ?_
 refine zd3 (ι:=Nat) (λ(k:Nat)=>[(0,yc l),(1,iv v),(5,iv (k:Int))]) (λ(k:Nat)=>[]) (λ(k:Nat)=>k<=l.length/\ownV l v=ownV (l.drop k) v) (λ(k:Nat)=>l.length-k) 0 (λk Z=>?_) (hJ:=by
  simp_all)
 obtain⟨V,U⟩:=Z;refine gd ?_ ?_<;>intro T
 ·obtain⟨x,hx⟩:∃x,l[k]? =some x:=⟨_,lgg (by omega)⟩;have Q:l[(k:Int).toNat]? =some x:=by simpa using hx
  apply yk;apply yf;apply kB;apply ye;iterate 5 refine ya ?_
  refine kI 5 ?_;refine yp ?_;iterate 6 refine kG ?_
  refine gf ?_ ?_<;>intro N
  ·apply ye;(iterate 2 refine ya ?_);refine yE ?_;refine kE ?_;refine zav ?_;simp_all[zjQ]
  refine gq ?_
  refine yz (k+1) (hJ:=by
   grind[zjQ])
 ·apply kO;apply ye;refine yh ?_;refine kE ?_;refine zav ?_
  grind[ownV]
set_option maxHeartbeats 2000000 in
def za3(m:Mn)(l:List Sg)(hl:l.length<=1000):Fn prog 81 [mnA m,sgsA l] (iv (ckR m l)):=by
 refine kF func81 ntmps81 (λg w d=>?_);refine gc (zn m) ?_;refine gd ?_ ?_<;>intro H
 ·apply ye;refine yO ?_;refine kE ?_;refine zav ?_;simp_all[ckR]
 refine gq ?_
 refine zd3 (ι:=Nat) (λ(k:Nat)=>[(1,sgsA l),(2,.ptr 2 0 0 0),(6,iv (k:Int))]) (λ(k:Nat)=>[(2,.box (mnE m) 23)]) (λ(k:Nat)=>k<=l.length/\ckR m l=zco m l k (l.drop k)) (λ(k:Nat)=>l.length-k) 0 (λk G=>?_) (hJ:=by
  simp_all[ckR])
 obtain⟨E,Z⟩:=G;refine gd ?_ ?_<;>intro xT
 ·obtain⟨s,hs⟩:∃s,l[k]? =some s:=⟨_,lgg (by omega)⟩;have x4:l[(k:Int).toNat]? =some s:=by simpa using hs
  refine gd ?_ ?_<;>intro U
  ·refine gd ?_ ?_<;>intro x3
   ·apply ye;(iterate 6 refine ya ?_);refine kI 6 ?_;refine yp ?_;(iterate 6 refine kG ?_);refine gf ?_ ?_<;>intro x2
    ·have V:sgR m l k s=2:=by unfold sgR;rw[j3 (.inl U),j4 (by omega)]
     refine gq ?_;all_goals(rw[Z,zbl hs (by rw[V];decide),V])
    have h0:sgR m l k s=0:=by unfold sgR;rw[j3 (.inl U),j3 (by omega)]
    refine gq ?_;refine yz (k+1) (hJ:=by exact⟨by omega,by rw[Z,zdM hs h0]⟩)
   omega
  ·refine gd ?_ ?_<;>intro Q
   ·apply ye;(iterate 6 refine ya ?_);refine kI 6 ?_;refine yp ?_;(iterate 6 refine kG ?_);refine gf ?_ ?_<;>intro x1
    ·have V:sgR m l k s=2:=by unfold sgR;rw[j3 (.inr Q),j4 (by omega)]
     apply ye;refine yh ?_;refine kE ?_;refine zav ?_;simp_all[zbl]
    have h0:sgR m l k s=0:=by simp_all[sgR]
    refine gq ?_
    refine yz (k+1) (hJ:=by
     grind[zdM])
   ·refine gd ?_ ?_<;>intro N
    ·have J:=zsC (m:=m) hs N;refine gc (zfV l k (by omega) (by omega)) ?_;refine gd ?_ ?_<;>intro x0
     ·have V:sgR m l k s=13:=by
       rcases J with h|⟨p,h,_⟩
       ·exact h.2
       ·omega
      apply ye;refine yh ?_;refine kE ?_;refine zav ?_;simp_all[zbl]
     obtain⟨p,w2,hp,I⟩:∃p:Sg,0<=zfA l k/\l[(zfA l k).toNat]? =some p/\sgR m l k s=if p.Kind=2/\m.aV p.Value=0 then 13 else 0:=by
      grind
     refine gq ?_;refine yW [8,9,50,51,52,53,54,55,56,57,58,59] [0,0,0,6,14,30,63,127,255,255,511,2047] mo ?_;(iterate 6 refine yb ?_);refine yL (zaL m _) ?_;(iterate 5 refine yb ?_);refine yF ?_;apply yG;(iterate 6 refine ya ?_);refine kI 6 ?_;refine yp ?_;(iterate 2 refine kG ?_);refine gf ?_ ?_<;>intro T
     ·have V:sgR m l k s=13:=by rw[I,j3 T]
      apply ye;refine yh ?_;refine kE ?_;refine zav ?_;simp_all[zbl]
     have h0:sgR m l k s=0:=by omega
     refine gq ?_
     refine yz (k+1) (hJ:=by
      grind[zdM])
    ·have V:sgR m l k s=8:=by unfold sgR;rw[j4 (by omega),j4 (by omega)]
     apply ye;refine yh ?_;refine kE ?_;refine zav ?_;simp_all[zbl]
 ·refine gq ?_;all_goals(rw[Z,w8 (by omega)];rfl)
def zbB(m:Mn)(s:Sg):Fn prog 280 [mnA m,sgA s] (yc (mngR m s)):=by
 refine kF func280 ntmps280 (λg w d=>?_);refine gc (zaL m s.Value) ?_;refine gd ?_ ?_<;>intro Z
 ·refine gq ?_;refine yD intE [_] ?_;refine yh ?_;refine kE ?_;refine kA (k9 (k:=19) rfl) ?_;refine gq ?_;all_goals(first|(simp[mngR, *];rfl)|(have h0:¬m.aV s.Value=0:=(by omega);simp[mngR, *];rfl))
 refine gd ?_ ?_<;>intro V
 ·apply ye;refine yD intE [_] ?_;refine yh ?_;refine kE ?_;refine kA (k9 (k:=23) rfl) ?_;refine gq ?_;all_goals(first|(simp[mngR, *];rfl)|(have h0:¬m.aV s.Value=0:=(by omega);simp[mngR, *];rfl))
 refine gq ?_;refine yP (yX m s.Value) ?_;refine ya ?_;refine kI 5 ?_;refine yp ?_;iterate 2 refine kG ?_
 refine gf ?_ ?_<;>intro U
 ·apply ye;refine yD intE [_] ?_;refine yh ?_;refine kE ?_;refine kA (k9 (k:=34) rfl) ?_;refine gq ?_;all_goals(first|(simp[mngR, *];rfl)|(have h0:¬m.aV s.Value=0:=(by omega);simp[mngR, *];rfl))
 refine gc (yX m s.Value) ?_;refine gd ?_ ?_<;>intro T
 ·refine gq ?_;refine yD intE [_,_] ?_;refine yh ?_;refine kE ?_;refine kA (k9 (k:=42) rfl) ?_;refine gq ?_;all_goals(first|(simp[mngR, *];rfl)|(have h0:¬m.aV s.Value=0:=(by omega);simp[mngR, *];rfl))
 refine gd ?_ ?_<;>intro Q
 ·refine gq ?_;refine yD intE [_] ?_;refine yh ?_;refine kE ?_;refine kA (k9 (k:=48) rfl) ?_;refine gq ?_;all_goals(first|(simp[mngR, *];rfl)|(have h0:¬m.aV s.Value=0:=(by omega);simp[mngR, *];rfl))
 refine gq ?_;refine yD intE [_,_] ?_;refine yh ?_;refine kE ?_;refine kA (k9 (k:=52) rfl) ?_;refine gq ?_;all_goals(first|(simp[mngR, *];rfl)|(have h0:¬m.aV s.Value=0:=(by omega);simp[mngR, *];rfl))
theorem zdW(m:Mn)(l:List Sg)(hl:l.length<=1000):Fn prog 283 [mnA m,sgsA l] (.tup [zc6 (if ckR m l=0 then mnsR m l else[]),iv (ckR m l)]):=by
 refine kF func283 ntmps283 (λg w d=>?_);refine gc (za3 m l hl) ?_;refine gd ?_ ?_<;>intro Z
 ·apply ye;refine yE ?_;refine kE ?_;refine kA (yd (ts:=[(4,zc6 []),(5,iv (ckR m l))]) (hs:=[])) ?_;refine ym ?_ ?_;all_goals simp_all
 apply yk;apply ye;refine yh ?_;iterate 2 apply yf
 refine kJ (yI zjh 46 1 7 7 rfl rfl) ?_;apply yj;refine yh ?_;apply kB;refine zu (λk=>[(1,sgsA l),(2,.ptr 2 0 0 0),(7,.own 7),(8,iv (k:Int))]) (λk=>[(2,.box (mnE m) 23),(7,.row zjh ((yV l k).map (zgj m l)) 46 1)]) l.length (λk hk=>?_) (h0:=yd);refine gd ?_ ?_<;>intro J
 ·obtain⟨s,hs⟩:∃s,l[k]? =some s:=⟨_,lgg (by omega)⟩;have I:l[(k:Int).toNat]? =some s:=by simpa using hs
  have H:=zbR l k;have G:((yV l k).map (zgj m l)).length<=1000:=by simp;omega
  refine gd ?_ ?_<;>intro U
  ·obtain⟨p,E,hp,Q,xT⟩:=zuI Z hs U;have V:=zjR (zgj m l) hs U;rw[show zgj m l k=mngR m p by unfold zgj;rw[Q]]at V;apply yf;refine yW [9,28,29,30,31,32,33,34] [0,0,0,4,14,30,63,127] mo ?_;(iterate 6 refine yb ?_);refine yL (zbB m _) ?_;refine yb ?_;refine yF ?_;refine gq ?_;refine yD zjh [_] ?_;refine gq ?_;refine yz (k+1)
  ·have V:=zl4 (zgj m l) hs U;refine gq ?_;refine yz (k+1)
 ·have N:k=l.length:=by omega
  subst N;have T:(yV l l.length).map (zgj m l)=mnsR m l:=rfl;apply kO;apply ye;refine yE ?_;refine kE ?_;refine kA (k9 (k:=7) rfl) ?_;refine ym ?_ ?_;all_goals(first|(simp[Z];done)|(rw[j3 Z,←T];rfl)|(rw[j4 Z])|exact zE Z|rfl)
set_option maxHeartbeats 4000000 in
theorem zfW(m:Mn)(l:List Sg)(hl:l.length<=1000):Fn prog 237 [mnA m,sgsA l] (.tup [yc (if ckR m l=0 then zpp m l else[]),iv (ckR m l)]):=by
 refine kF func237 ntmps237 (λg w d=>?_);refine gc (za3 m l hl) ?_;refine gd ?_ ?_<;>intro V
 ·apply ye;refine yE ?_;refine kE ?_;refine kA (yd (ts:=[(4,yc []),(5,iv (ckR m l))]) (hs:=[])) ?_;refine ym ?_ ?_;all_goals simp_all
 apply yk;apply ye;refine yh ?_;iterate 2 apply yf
 refine kJ (yI intE 3 1 7 7 rfl rfl) ?_;apply yj;refine yh ?_;apply kB;refine zu (λk=>[(1,sgsA l),(2,.ptr 2 0 0 0),(7,.own 7),(8,iv (k:Int))]) (λk=>[(2,.box (mnE m) 23),(7,.row intE ((yV l k).map (zcp m l)) 3 1)]) l.length (λk hk=>?_) (h0:=yd);refine gd ?_ ?_<;>intro I
 ·obtain⟨s,hs⟩:∃s,l[k]? =some s:=⟨_,lgg (by omega)⟩;have H:l[(k:Int).toNat]? =some s:=by simpa using hs
  have G:=zbR l k;have E:((yV l k).map (zcp m l)).length<=1000:=by simp;omega
  refine gd ?_ ?_<;>intro T
  ·have Z:=zl4 (zcp m l) hs T;refine gq ?_;refine yz (k+1)
  obtain⟨p,xT,hp,N,x4⟩:=zuI V hs T;have Z:=zjR (zcp m l) hs T;rw[show zcp m l k=za9 m l k p by unfold zcp;rw[N]]at Z;have x3:=zqn m p;obtain⟨c0,x2⟩:∃c0,(mngR m p)[(0:Int).toNat]? =some c0:=⟨_,lgg (by simp;omega)⟩
  have x1:(mngR m p).headD 0=c0:=by
   cases hq:mngR m p<;>simp_all
  refine gq ?_;refine yW [9,30,31,32,33,34,35,36] [0,0,0,4,14,30,63,127] mo ?_;iterate 6 refine yb ?_
  refine yL (zbB m _) ?_;refine yb ?_;refine yF ?_;refine gq ?_;refine yW [10,11,37,38,39,40,41,42,43,44,45,46,47] [0,0,0,4,14,30,62,127,255,511,511,1023,4095] mo ?_;iterate 7 refine yb ?_
  refine yL (zaL m p.Value) ?_;iterate 5 refine yb ?_
  refine yF ?_;refine gd ?_ ?_<;>intro x0
  ·have U:za9 m l k p=c0:=by simp_all[za9];omega
   rw[U]at Z;refine gq ?_;refine yD intE [_] ?_;refine gq ?_;refine yz (k+1)
  ·have w2:=zqo (k:=k) (v:=p.Value) (by omega:k<l.length) (by omega);apply yf;refine yW [62,63,64,65,66,67,68,69,70,71,72,73,74,75,76,77,78,79,80,81,82] [0,1,0,4,15,31,63,63,191,511,1023,2047,63,63,8255,28735,61503,127039,262143,524287,1048575] mo ?_;(iterate 6 refine yb ?_);(iterate 13 refine kM ?_);(iterate 2 refine yb ?_);refine yF ?_;refine gd ?_ ?_<;>intro v9
   ·have U:za9 m l k p=ownV (mngR m p) p.Value:=by simp[za9];omega
    rw[U]at Z;refine gq ?_;refine yP (zgw (mngR m p) p.Value (by omega)) ?_;refine yD intE [_] ?_;refine gq ?_;refine yz (k+1)
   ·have U:za9 m l k p=m.aV p.Value:=by simp[za9];omega
    rw[U]at Z;refine gq ?_;refine yD intE [_] ?_;refine gq ?_;refine yz (k+1)
 ·have J:k=l.length:=by omega
  subst J;have Q:(yV l l.length).map (zcp m l)=zpp m l:=rfl;apply kO;apply ye;refine yE ?_;refine kE ?_;refine kA (k9 (k:=7) rfl) ?_;refine ym ?_ ?_;all_goals(first|(simp[V];done)|(rw[j3 V,←Q];rfl)|(rw[j4 V])|exact zE V|rfl)
def zb8(m:Mn)(l:List Sg)(hl:l.length<=1000):Fn prog 81 [mnA m,sgsA l] (iv (ckD m l)):=by
 rw[znp];exact za3 m l hl
def C_tactusref09_Meanings'(m:Mn)(l:List Sg)(hl:l.length<=1000):Fn prog 283 [mnA m,sgsA l] (.tup [zc6 (if ckD m l=0 then mnsD m l else[]),iv (ckD m l)]):=by
 grind[zdW,znp,zvr]
def zfq(m:Mn)(l:List Sg)(hl:l.length<=1000):Fn prog 237 [mnA m,sgsA l] (.tup [yc (if ckD m l=0 then zl m l else[]),iv (ckD m l)]):=by
 grind[zfW,znp,zrK]
end
section
attribute [local irreducible] Pur yA yC Ex X Fn Imp LeV LeB FnO It yH
def zao(m:Mn)(l:List Sg)(i:Int):Bool:=decide (m.Pro=2)&&zaB l i
def zN(m:Mn)(l:List Sg):Nat->List Int
 |0=>[]
 |k+1=>if zao m l (k:Int)=true then zN m l k++[(k:Int)]else zN m l k
def zaq(m:Mn)(l:List Sg):List Int:=zN m l l.length
def zhq(m:Mn)(l:List Sg):List (List AV):=(zaq m l).map λi=>[iv i]
def ze7{m:Mn}{l:List Sg}{k:Nat}(h:zao m l (k:Int)=true):zN m l k++[(k:Int)]=zN m l (k+1):=by
 conv=>rhs;unfold zN
 rw[j3 h]
def zgx{m:Mn}{l:List Sg}{k:Nat}(h:zao m l (k:Int)=false):zN m l k=zN m l (k+1):=by
 conv=>rhs;unfold zN
 rw[j4 (by simp[h])]
def zha(m:Mn)(l:List Sg):∀k,(zN m l k).length<=k
 |0=>jD _
 |k+1=>by
  unfold zN;have:=zha m l k;split
  ·simp;omega
  ·omega
def zjS{m:Mn}{l:List Sg}(k:Nat):∀d,∃r,zN m l (k+d)=zN m l k++r
 |0=>⟨[],by simp⟩
 |d+1=>by
  obtain⟨r,hr⟩:=zjS (m:=m) (l:=l) k d;show∃r,zN m l ((k+d)+1)=_;by_cases h:zao m l ((k+d:Nat):Int)=true
  ·rw[←ze7 h,hr];exact⟨r++[((k+d:Nat):Int)],by simp⟩
  ·rw[←zgx (by simpa using h)];exact⟨r,hr⟩
def zoW{m:Mn}{l:List Sg}{k:Nat}(Z:k<l.length)(h:zao m l (k:Int)=true):(zhq m l)[(zN m l k).length]? =some [iv (k:Int)]:=by
 obtain⟨r,hr⟩:=zjS (m:=m) (l:=l) (k+1) (l.length-(k+1));rw[show k+1+(l.length-(k+1))=l.length by omega,←ze7 h]at hr;unfold zhq zaq;rw[hr];simp
def zhb{m:Mn}{l:List Sg}{j:Nat}{zs:List AV}(h:(zhq m l)[j]? =some zs):∃i,(zaq m l)[j]? =some i/\zs=[iv i]:=by
 rw[zhq,jO]at h;cases Z:(zaq m l)[j]? with
 |none=>simp[Z]at h
 |some k=>simp[Z]at h;exact⟨k,rfl,h.symm⟩
attribute [local irreducible] zaB zN zaq
def zhH(m:Mn)(l:List Sg)(hl:l.length<=4000000000):It prog 325 [.ept (λ_:Unit=>[.sl sgE l]) () 0,.ept (λ_:Unit=>mnE m) () 0] (zhq m l):=by
 have x2:(zN m l 0).length=0:=by unfold zN;rfl
 refine It.intro (ts:=λlY=>[(0,.yv lY),(1,.ept (λ_:Unit=>[.sl sgE l]) () 0),(2,.ept (λ_:Unit=>mnE m) () 0)]) (n:=25) (by kernel_rfl) func325 rfl ntmps325 rfl (λ_=>rfl) (by simp) (λg w d ds Y lY hY=>?_);apply ye;refine yE ?_;apply kB;refine zu (λk=>[(0,.yv lY),(1,.ept (λ_:Unit=>[.sl sgE l]) () 0),(2,.ept (λ_:Unit=>mnE m) () 0),(6,iv l.length),(7,iv (k:Int))]) (λk=>[(1000000,.yld (zN m l k).length true)]) l.length (λk hk=>?_) (h0:=yd);refine gd ?_ ?_<;>intro x1
 ·apply yk;apply yf;apply kB;apply ye;refine yO ?_;apply yf;have H:(decide (m.Pro=2)=false)\/(decide (m.Pro=2)=true/\zaB l (k:Int)=false)\/(decide (m.Pro=2)=true/\zaB l (k:Int)=true):=by cases decide (m.Pro=2)<;>cases zaB l (k:Int)<;>simp
  rcases H with T|⟨T,N⟩|⟨T,N⟩
  ·have U:(decide (m.Pro=2)==true)=false:=by rw[T];rfl
   have Q:zao m l (k:Int)=false:=by unfold zao;rw[T];rfl
   have V:=zgx Q;have Z:=j5 List.length V.symm;apply yj;(iterate 4 refine ya ?_);(iterate 3 refine zbP ?_);(iterate 2 refine ya ?_);(iterate 4 refine zbP ?_);refine gd ?_ ?_<;>intro G
   ·exact absurd G (by decide)
   refine gq ?_;refine yz (k+1)
  ·have U:(decide (m.Pro=2)==true)=true:=by rw[T];rfl
   have J:(zaB l (k:Int)==true)=false:=by rw[N];rfl
   have Q:zao m l (k:Int)=false:=by unfold zao;rw[T,N];rfl
   have V:=zgx Q;have Z:=j5 List.length V.symm;apply yj;(iterate 4 refine ya ?_);iterate 2 refine zag ?_
   (refine zq9 rfl rfl ?_ (zT rfl rfl rfl (kS _) (zgi l hl (k:Int) (by omega) (by omega))) rfl rfl ?_;iterate 1(· first|exact U|assumption|rfl|(simp_all;done)|omega))
   (iterate 2 refine ya ?_);(iterate 4 refine zbP ?_);refine gd ?_ ?_<;>intro E
   ·exact absurd E (by decide)
   refine gq ?_;refine yz (k+1)
  ·have U:(decide (m.Pro=2)==true)=true:=by rw[T];rfl
   have J:(zaB l (k:Int)==true)=true:=by rw[N];rfl
   have Q:zao m l (k:Int)=true:=by unfold zao;rw[T,N];rfl
   have V:=ze7 Q;have Z:=j5 List.length V;have xT:=zoW (by omega) Q;rw[jE]at Z;apply yj;(iterate 4 refine ya ?_);iterate 2 refine zag ?_
   (refine zq9 rfl rfl ?_ (zT rfl rfl rfl (kS _) (zgi l hl (k:Int) (by omega) (by omega))) rfl rfl ?_;iterate 1(· first|exact U|assumption|rfl|(simp_all;done)|omega))
   (iterate 2 refine ya ?_);(iterate 2 refine zag ?_);refine zcz hY rfl rfl rfl (λ_=>⟨_,_,rfl,rfl,rfl,kS _,rfl,rfl,xT,λb=>?_⟩) (λh=>absurd (h.symm.trans J) (by decide));refine zag ?_;refine gd ?_ ?_<;>intro I
   ·subst I;refine kE ?_;refine⟨.inr rfl,_,false,rfl,λhb=>by simp at hb⟩
   subst I;have x3:(zN m l (k+1)).length=(zN m l k).length+1:=Z.symm;clear Z;refine gq ?_;refine yz (k+1)
 ·have x4:k=l.length:=by omega
  subst x4;apply kO;refine⟨.inl rfl,_,true,rfl,λ_=>by unfold zhq zaq;rw[jX]⟩
def zjr(m:Mn)(l:List Sg):Fn prog 293 [mnA m,sgsA l] (.fn 325 [.ept (λ_:Unit=>[.sl sgE l]) () 0,.ept (λ_:Unit=>mnE m) () 0]):=by
 refine kF func293 ntmps293 (λg w d=>?_);refine gq ?_;refine zeW ?_;refine ya ?_;apply yG;refine yO ?_;refine kE ?_;refine kA ((y5 (k:=2) rfl rfl).trans (y5 (k:=3) rfl rfl)) ?_;refine gq ?_;all_goals exact zR
end
section
attribute [local irreducible] Pur yA yC Ex X Fn Imp LeV LeB FnO It yH
def zjT(m:Mn)(l:List Sg):(zaq m l).length<=l.length:=by unfold zaq;exact zha m l _
def zoX{α:Type}{a:List α}{j:Nat}{x:α}(h:a[j]? =some x):a.take j++[x]=a.take (j+1):=by
 rw[jF,h];rfl
def zmV{m:Mn}{l:List Sg}{k:Int}(h:m.p 4=2/\zaB l k=true):zao m l k=true:=by
 have e:m.p 4=m.Pro:=rfl;rw[e]at h;unfold zao;rw[jJ h.1,h.2];rfl
def zoY{m:Mn}{l:List Sg}{k:Int}(h:¬m.p 4=2\/zaB l k=false):zao m l k=false:=by
 have e:m.p 4=m.Pro:=rfl;rw[e]at h;unfold zao;rcases h with h|h
 ·rw[jC h];rfl
 ·rw[h];simp
attribute [local irreducible] zaB zN zaq zao ckD
def zjs(m:Mn)(z:List Sg)(hl:z.length<=1000):FnO prog 249 [mnA m,sgsA z] [] [] (.tup [.own 39,iv (ckD m z)]) [(39,.row intE (if ckD m z=0 then zaq m z else[]) 3 1)]:=by
 refine bF (ts:=[(0,mnA m),(1,sgsA z)]) (rv:=[.tmp 4,.tmp 5]) (n:=24) (cs:=[]) (by kernel_rfl) func249 rfl ntmps249 rfl rfl (by simp) rfl rfl rfl rfl (λg w d vh=>?_);refine gc (zb5 m z hl) ?_;refine gd ?_ ?_<;>intro Z
 ·have hE:[]=(if ckD m z=0 then zaq m z else[]):=by rw[j4 Z]
  apply ye;refine yE ?_;refine kE ?_;refine zou.imp (yI intE 3 1 4 39 rfl rfl) ?_;refine zou.mk (ts:=[(4,.own 39),(5,iv (ckD m z))]) (.inr rfl) (yd) (.many (by decide) (.cons (.tmp rfl (kC rfl)) (.cons (.tmp rfl (kC rfl)) .nil)))
 have U:=zjT m z;apply yk;apply ye;refine zk ?_;apply kQ;iterate 2 apply yf
 refine kJ (zb0 intE 3 1 7 39 46 rfl rfl) ?_;refine gq ?_;refine yP (zjr m z) ?_;apply kQ;apply kB;have T:[]=(zaq m z).take 0:=by simp
 have Q:(zaq m z).take (zhq m z).length=(if ckD m z=0 then zaq m z else[]):=by
  rw[j3 Z];unfold zhq;rw[jX,jH]
 refine X.range (sl:=[7]) (λj=>([.ptr 7 0 0 0],[(1000001,.hold vh []),(7,.box [.own 39] 46),(39,.row intE ((zaq m z).take j) 3 1)])) (λj=>True) 900001 900002 rfl rfl (by decide) (λj zs V=>by obtain⟨i,_,rfl⟩:=zhb V;rfl) (zhH m z (by omega)) trivial rfl rfl (by decide) (w7 _) (by simp) (λj zs V=>by obtain⟨i,_,rfl⟩:=zhb V;rfl) (λ_=>rfl) rfl rfl (λl o us=>yd) (trivial) (λj zs V hJ l ready busy rb vs g w H N=>?_) (λhJ=>?_)
 ·obtain⟨i,hi,rfl⟩:=zhb V;have J:=zoX hi;have I:((zaq m z).take j).length<=1000:=by simp;omega
  apply yj;refine yh ?_;refine⟨rfl,rfl,?_⟩;refine gq ?_;refine yD intE [_] ?_;iterate 2 refine kK ?_
  apply kQ;refine⟨[.ptr 7 0 0 0],[(1000001,.hold vh []),(7,.box [.own 39] 46),(39,.row intE ((zaq m z).take (j+1)) 3 1)],yd,rfl,trivial⟩
 apply ye;refine yE ?_;refine kE ?_;refine zou.mk (ts:=[(4,.own 39),(5,iv (ckD m z))]) (.inr rfl) (yd) (.many (by decide) (.cons (.tmp rfl (kC rfl)) (.cons (.tmp rfl (kC rfl)) .nil)))
def zfr(m:Mn)(l:List Sg)(hl:l.length<=1000):Fn prog 282 [mnA m,sgsA l] (.tup [yc (if ckD m l=0 then zaq m l else[]),iv (ckD m l)]):=by
 have J:[]=zN m l 0:=by unfold zN;rfl
 have V:zN m l l.length=zaq m l:=by unfold zaq;rfl
 refine kF func282 ntmps282 (λg w d=>?_);refine gc (zb8 m l hl) ?_;refine gd ?_ ?_<;>intro Z
 ·apply ye;refine yE ?_;refine kE ?_;refine kA (yd (ts:=[(4,yc []),(5,iv (ckD m l))]) (hs:=[])) ?_;refine ym ?_ ?_;all_goals(first|(rw[j4 Z];done)|rfl|(rw[j3 Z,←V];rfl)|(rw[j3 Z,←V];done)|exact zE Z)
 apply yk;apply ye;refine yh ?_;iterate 2 apply yf
 refine kJ (yI intE 3 1 7 7 rfl rfl) ?_;apply yj;refine yh ?_;apply kB;refine zu (λk=>[(1,sgsA l),(2,.ptr 2 0 0 0),(7,.own 7),(8,iv (k:Int))]) (λk=>[(2,.box (mnE m) 23),(7,.row intE (zN m l k) 3 1)]) l.length (λk H=>?_) (h0:=yd);refine gd ?_ ?_<;>intro I
 ·have N:=zha m l k;refine gc (zfM m l (by omega) (k:Int) (by omega) (by omega)) ?_;refine gd ?_ ?_<;>intro U
  ·have T:=ze7 (zmV U);refine gq ?_;refine yD intE [_] ?_;refine gq ?_;refine yz (k+1)
  ·have T:=zgx (zoY U);refine gq ?_;refine yz (k+1)
 ·have Q:k=l.length:=by omega
  subst Q;apply kO;apply ye;refine yE ?_;refine kE ?_;refine kA (k9 (k:=7) rfl) ?_;refine ym ?_ ?_;all_goals(first|(rw[j4 Z];done)|rfl|(rw[j3 Z,←V];rfl)|(rw[j3 Z,←V];done)|exact zE Z)
end
section
attribute [local irreducible] Pur yA yC Ex X Fn Imp LeV LeB FnO It yH
attribute [local irreducible] zaB zN zaq zao ckD
def prL(m:Mn)(l:List Sg):List Int:=if ckD m l=0 then zaq m l else[]
def twos(n:Nat):List Int:=List.replicate n 2
def zjU(n:Nat):twos n++[2]=twos (n+1):=by unfold twos;rw[List.replicate_succ']
def zcK(n:Nat):(twos n).length=n:=by unfold twos;simp
def ze8(m:Mn)(l:List Sg):(prL m l).length<=l.length:=by
 unfold prL;split
 ·exact zjT m l
 ·simp
def zb9(m:Mn)(l:List Sg)(hl:l.length<=1000):Fn prog 282 [mnA m,sgsA l] (.tup [yc (prL m l),iv (ckD m l)]):=zfr m l hl
attribute [local irreducible] prL twos
def zfX(m:Mn)(l:List Sg)(hl:l.length<=1000):Fn prog 238 [mnA m,sgsA l] (.tup [yc (twos (prL m l).length),iv (ckD m l)]):=by
 have U:[]=twos 0:=by unfold twos;rfl
 have T:=ze8 m l;refine kF func238 ntmps238 (λg w d=>?_);refine gq ?_;refine yP (zb9 m l hl) ?_;iterate 5 refine ya ?_
 apply yG;refine yh ?_;iterate 2 apply yf
 refine kJ (yI intE 3 1 8 8 rfl rfl) ?_;apply yj;refine yh ?_;apply kB;refine zu (λk=>[(6,yc (prL m l)),(7,iv (ckD m l)),(8,.own 8),(9,iv (k:Int))]) (λk=>[(8,.row intE (twos k) 3 1)]) ((prL m l).length) (λk J=>?_) (h0:=yd);refine gd ?_ ?_<;>intro Q
 ·have V:=zcK k;have N:=zjU k;refine gq ?_;refine yD intE [_] ?_;refine gq ?_;refine yz (k+1)
 ·have Z:k=(prL m l).length:=by omega
  subst Z;apply kO;apply ye;refine ya ?_;refine yE ?_;refine kE ?_;refine kA (k9 (k:=8) rfl) ?_;refine ym ?_ ?_;all_goals rfl
end
section
attribute [local irreducible] Pur yA yC Ex X Fn Imp LeV LeB FnO It yH
attribute [local irreducible] zaB zN zaq zao ckD
def zez(m:Mn)(l:List Sg)(hl:l.length<=1000):FnO prog 249 [mnA m,sgsA l] [] [] (.tup [.own 39,iv (ckD m l)]) [(39,.row intE (prL m l) 3 1)]:=zjs m l hl
def ruK(p:List Int)(k:Nat):List Int:=twos k++p.drop k
def zsD{p:List Int}{k:Nat}(h:k<=p.length):(ruK p k).length=p.length:=by unfold ruK;rw[jE,zcK,wM];omega
def zsE{p:List Int}{k:Nat}(h:k<p.length):(ruK p k).set k 2=ruK p (k+1):=by
 unfold ruK;rw[xI _ _ (by rw[zcK];omega),zcK,Nat.sub_self,←zjU,v7];congr 1;rw[jG h];rfl
def zyu(p:List Int):p=ruK p 0:=by unfold ruK twos;rfl
def zyv(p:List Int):ruK p p.length=twos p.length:=by unfold ruK;rw[wQ,wC]
def zmW{m:Mn}{l:List Sg}(h:¬ckD m l=0):prL m l=[]:=by unfold prL;rw[j4 h]
attribute [local irreducible] prL twos ruK
def zkM(m:Mn)(l:List Sg)(hl:l.length<=1000):Fn prog 187 [mnA m,sgsA l] (.tup [yc (twos (prL m l).length),iv (ckD m l)]):=by
 have Q:=zyu (prL m l);have V:=zyv (prL m l);have N:=ze8 m l;refine kF func187 ntmps187 (λg w d=>?_);refine gq ?_;refine zV [(39,39)] (zez m l hl) ?_;refine gd ?_ ?_<;>intro Z
 ·have ht:[]=twos (prL m l).length:=by rw[zmW Z];unfold twos;rfl
  apply ye;refine yE ?_;refine kE ?_;refine kA (yd (ts:=[(4,yc []),(5,iv (ckD m l))]) (hs:=[])) ?_;refine ym ?_ ?_;all_goals(first|rfl|exact j5 yc ht|exact j5 yc V|exact j5 (AV.int .i64) Z.symm)
 apply yk;apply yf;apply ye;refine yE ?_;apply kB;refine zu (λk=>[(6,.own 39),(7,iv 0),(19,iv ((prL m l).length:Int)),(20,iv (k:Int))]) (λk=>[(39,.row intE (ruK (prL m l) k) 3 1)]) ((prL m l).length) (λk H=>?_) (h0:=yd);refine gd ?_ ?_<;>intro J
 ·have T:=zsD (p:=prL m l) (k:=k) (by omega);have I:=zsE (p:=prL m l) (k:=k) (by omega);refine gq ?_;refine yz (k+1)
 ·have U:k=(prL m l).length:=by omega
  subst U;apply kO;apply ye;refine yE ?_;refine kE ?_;refine kA (k9 (k:=39) rfl) ?_;refine ym ?_ ?_;all_goals(first|rfl|exact j5 yc ht|exact j5 yc V|exact j5 (AV.int .i64) Z.symm)
end
section
attribute [local irreducible] Pur yA yC Ex X Fn Imp LeV LeB FnO It yH
attribute [local irreducible] zaB zN zaq zao ckD
attribute [local irreducible] prL andI
end
section
section
variable{α:Type}
def ze9{q:Int}:∀(l:List (Int×α))(i:Nat),mix q l i=(mix q l 0).map (λp=>(p.1+i,p.2))
 |[],i=>rfl
 |p::l,i=>by
  unfold mix;by_cases h:p.1=q
  ·simp[h]
  ·rw[j4 h,j4 h,ze9 l (i+1),ze9 l 1,Option.map_map];congr 1;funext x;simp;omega
def zqp(q:Int):mget q ([]:List (Int×α))=none:=rfl
def zdA(q:Int)(p:Int×α)(l:List (Int×α)):mget q (p::l)=if p.1=q then some p.2 else mget q l:=by
 have e:mix q (p::l) 0=if p.1=q then some (0,p.2)else mix q l 1:=rfl
 unfold mget;rw[e];by_cases h:p.1=q
 ·simp[h]
 ·rw[j4 h,j4 h,ze9 l 1,Option.map_map];rfl
def zqq(q:Int)(x:α):mput q x []=[(q,x)]:=rfl
def zoZ(q:Int)(x:α)(p:Int×α)(l:List (Int×α)):mput q x (p::l)=if p.1=q then(q,x)::l else p::mput q x l:=by
 unfold mput;by_cases h:p.1=q
 ·simp[mix,h]
 ·have e:mix q (p::l) 0=(mix q l 0).map (λz=>(z.1+1,z.2)):=by
   rw[show mix q (p::l) 0=mix q l 1 by simp[mix,h],ze9 l 1]
  rw[e,j4 h];cases mix q l 0 with
  |none=>rfl
  |some z=>rfl
theorem zdB(q q':Int)(x:α):∀l:List (Int×α),mget q (mput q' x l)=if q'=q then some x else mget q l
 |[]=>by rw[zqq,zdA]
 |p::l=>by
  rw[zoZ];by_cases h:p.1=q'
  ·rw[j3 h,zdA,zdA];by_cases Z:q'=q
   ·simp[Z]
   ·rw[j4 Z,j4 Z,j4 (by rw[h];exact Z)]
  ·rw[j4 h,zdA,zdA,zdB q q' x l];by_cases Z:p.1=q
   ·rw[j3 Z,j3 Z,j4 (by omega)]
   ·rw[j4 Z,j4 Z]
end
end
section
def zbN(p mi:List Int):Nat->List (Int×Tm)
 |0=>[]
 |k+1=>if mi[k]? =some 2 then mput (p.getD k 0+1) ⟨1,2⟩ (mput (p.getD k 0) ⟨3,2⟩ (zbN p mi k))else zbN p mi k
def zo0{p mi:List Int}{k:Nat}{x y:Int}(hx:p[k]? =some x)(Z:mi[k]? =some y)(h:y=2):mput (x+1) ⟨1,2⟩ (mput x ⟨3,2⟩ (zbN p mi k))=zbN p mi (k+1):=by
 simp_all[zbN]
def zo1{p mi:List Int}{k:Nat}{y:Int}(Z:mi[k]? =some y)(h:y=1):zbN p mi k=zbN p mi (k+1):=by
 simp_all[zbN]
def refT(p mi:List Int)(i:Int)(b:Tm):Nat->Tm
 |0=>b
 |k+1=>if mi[k]? =some 2/\p[k]? =some i then⟨3,2⟩else if mi[k]? =some 2/\p[k]? =some (i-1)then⟨1,2⟩else refT p mi i b k
def zjV(p mi:List Int)(i:Int)(b:Tm):∀k,k<=p.length->refT p mi i b k=(mget i (zbN p mi k)).getD b
 |0,_=>rfl
 |k+1,h=>by
  obtain⟨x,hx⟩:∃x,p[k]? =some x:=⟨_,lgg (by omega)⟩;have ih:=zjV p mi i b k (by omega)
  grind[refT,zbN,zdB]
def zwa{p mi:List Int}{i x y:Int}{b:Tm}{k:Nat}(hx:p[k]? =some x)(Z:mi[k]? =some y)(h:y=2/\x=i):⟨3,2⟩=refT p mi i b (k+1):=by
 simp_all[refT]
def zwb{p mi:List Int}{i x y:Int}{b:Tm}{k:Nat}(hx:p[k]? =some x)(Z:mi[k]? =some y)(h0:¬y=2\/¬x=i)(h:y=2/\x=i-1):⟨1,2⟩=refT p mi i b (k+1):=by
 simp_all[refT]
def zwc{p mi:List Int}{i x y:Int}{b:Tm}{k:Nat}(hx:p[k]? =some x)(Z:mi[k]? =some y)(h0:¬y=2\/¬x=i)(h:¬y=2\/¬x=i-1):refT p mi i b k=refT p mi i b (k+1):=by
 grind[refT]
def zwd(p mi:List Int)(i:Int)(b:Tm):b=refT p mi i b 0:=rfl
def bsT(m:Mn)(s:Sg):Tm:=if clr s=true then durT m s.Value else yx m s.Value
def zuJ{m:Mn}{s:Sg}(h:clr s=true):durT m s.Value=bsT m s:=by unfold bsT;rw[j3 h]
def zuK{m:Mn}{s:Sg}(h:clr s=false):yx m s.Value=bsT m s:=by simp_all[bsT]
def dvK(m:Mn)(l:List Sg)(M:List (Int×Tm)):Nat->List Tm
 |0=>[]
 |k+1=>match l[k]? with
  |some s=>if s.Kind=3 then dvK m l M k else dvK m l M k++[(mget (k:Int) M).getD (bsT m s)]
  |none=>dvK m l M k
def zkN{m:Mn}{l:List Sg}{M:List (Int×Tm)}{k:Nat}{s:Sg}(hs:l[k]? =some s)(h:s.Kind=3):dvK m l M k=dvK m l M (k+1):=by
 simp_all[dvK]
def zmX{m:Mn}{l:List Sg}{M:List (Int×Tm)}{k:Nat}{s:Sg}(hs:l[k]? =some s)(h:¬s.Kind=3):dvK m l M k++[(mget (k:Int) M).getD (bsT m s)]=dvK m l M (k+1):=by
 simp_all[dvK]
def zkO(m:Mn)(l:List Sg)(M:List (Int×Tm)):∀k,(dvK m l M k).length<=k
 |0=>jD _
 |k+1=>by
  have:=zkO m l M k
  grind[dvK]
def zwe{M:List (Int×Tm)}{i:Int}{b z:Tm}(h:(mget i M).isSome=true):(mget i M).getD z=(mget i M).getD b:=by
 cases hm:mget i M<;>simp_all
def zqr{M:List (Int×Tm)}{i:Int}{b:Tm}(h:(mget i M).isSome=false):b=(mget i M).getD b:=by
 simp_all
def mnOk(mi:List Int):Bool:=mi.all λx=>decide (x=1)||decide (x=2)
def duE(m:Mn)(l:List Sg)(mi:List Int):Int:=if ckD m l=0 then(if mi.length=(prL m l).length/\mnOk mi=true then 0 else 2)else ckD m l
def duM(m:Mn)(l:List Sg)(mi:List Int):List (Int×Tm):=zbN (prL m l) mi (prL m l).length
def duV(m:Mn)(l:List Sg)(mi:List Int):List Tm:=if duE m l mi=0 then dvK m l (duM m l mi) l.length else[]
def zl6{mi:List Int}{k:Nat}{y:Int}(Z:mi[k]? =some y)(V:¬y=1)(U:¬y=2):mnOk mi=false:=by
 cases h:mnOk mi with
 |false=>rfl
 |true=>
  unfold mnOk at h;have:=jB.1 h y (j6 Z)
  grind
def zqs{mi:List Int}(h:∀(j:Nat)y,j<mi.length->mi[j]? =some y->y=1\/y=2):mnOk mi=true:=by
 grind[mnOk,List.mem_iff_getElem?]
def mnK(mi:List Int)(k:Nat):Prop:=∀(j:Nat)y,j<k->mi[j]? =some y->y=1\/y=2
def zuL(mi:List Int):mnK mi 0:=λj y h=>by omega
def zqt{mi:List Int}{k:Nat}{y:Int}(h:mnK mi k)(U:mi[k]? =some y)(hv:y=1\/y=2):mnK mi (k+1):=λj z T V=>by
 rcases wA j k with Z|Z
 ·exact h j z Z V
 grind
def zqu{mi:List Int}(h:mnK mi mi.length):mnOk mi=true:=zqs λj y Z V=>h j y Z V
def zuM{m:Mn}{l:List Sg}{mi:List Int}(h:¬ckD m l=0):ckD m l=duE m l mi:=by unfold duE;rw[j4 h]
def zuN{m:Mn}{l:List Sg}{mi:List Int}(h:ckD m l=0)(Z:¬mi.length=(prL m l).length):2=duE m l mi:=by simp_all[duE]
def zuO{m:Mn}{l:List Sg}{mi:List Int}(h:ckD m l=0)(Z:mnOk mi=false):2=duE m l mi:=by simp_all[duE]
def zuP{m:Mn}{l:List Sg}{mi:List Int}(h:ckD m l=0)(Z:mi.length=(prL m l).length)(V:mnOk mi=true):0=duE m l mi:=by simp_all[duE]
def zjW{m:Mn}{l:List Sg}{mi:List Int}{e:Int}(h:e=duE m l mi)(he:¬e=0):[]=duV m l mi:=by simp_all[duV]
def zuQ{m:Mn}{l:List Sg}{mi:List Int}(h:0=duE m l mi):dvK m l (duM m l mi) l.length=duV m l mi:=by simp_all[duV]
def zfY{m:Mn}{l:List Sg}(h:ckD m l=0){k:Nat}{s:Sg}(hs:l[k]? =some s)(Z:¬s.Kind=3):ckM m=0/\1<=s.Value/\s.Value<=8:=by
 have hm:ckM m=0:=by
  unfold ckD at h;split at h
  ·assumption
  ·exact absurd h (by assumption)
 have hf:zan m l 0 l=0:=by unfold ckD at h;rw[j3 hm]at h;exact h
 have V:k<l.length:=(j1.1 hs).1;have U:=(zar hf (k+1) (by omega)).2 k s (by omega) hs;simp_all[sgF];omega
def ziw{m:Mn}{l:List Sg}:∀(k:Nat)(x:Int),x∈zN m l k->0<=x/\x<(k:Int)
 |0,x,h=>by grind[zN]
 |k+1,x,h=>by
  unfold zN at h;split at h
  ·rcases wN.1 h with h|h
   ·have:=ziw k x h;omega
   ·simp at h;omega
  ·have:=ziw k x h;omega
def zqv{m:Mn}{l:List Sg}{k:Nat}{x:Int}(h:(prL m l)[k]? =some x):0<=x/\x<(l.length:Int):=by
 unfold prL at h;split at h
 ·unfold zaq at h;exact ziw _ x (j6 h)
 ·simp at h
end
end Go.Rse
