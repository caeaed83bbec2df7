/-
  Walks.
-/
import Derived.Test.YtbopkhoalndflaaGreatDoorYJSpell1
set_option linter.all false
namespace Go.Rse
open Go Go.Proofs Go.Proofs.Tryz
section
attribute [local irreducible] Pur yA yC Ex X Fn Imp LeV LeB FnO It yH
def coll(p:Int->Bool)(l:List Int):List Int:=Lib.compact (srtI (dl (λv=>!p v) l))
def zgf(p:Int->Bool)(l:List Int):(coll p l).length<=l.length:=jQ (Lib.compact_length_le _) (by rw[zgJ];exact wS _ _)
def zhn(p:Int->Bool)(l:List Int):(dl p l).length<=l.length:=wS _ _
def zfk(fp:FuncId)(p:Int->Bool)(v:Int)(Z:Fn prog fp [iv v] (.bool (p v))):Fn prog 234 [iv v,.ept (λ_:Unit=>[.fn fp []]) () 0] (.bool (!p v)):=by
 refine kF func234 ntmps234 (λg w d=>?_);refine gc Z ?_;all_goals exact zR
def zbv(l:List Int)(hl:l.length<=4000000000)(fp:FuncId)(p:Int->Bool)(Z:∀v,v∈l->Fn prog fp [iv v] (.bool (p v))):Fn prog 179 [yc l,.fn fp []] (yc (coll p l)):=by
 refine kF func179 ntmps179 (λg w d=>?_);apply ye;refine zeW ?_;refine ya ?_;apply yG;refine ya ?_;refine zbt [(5,6)] (zbD l hl) rfl rfl rfl (kS _) rfl rfl trivial rfl rfl rfl rfl ?_;refine kU (y5 (k:=3) rfl rfl) ?_;refine zz (zf8 rfl) rfl ?_;refine zbt [(2000000,6),(2000002,8)] (zjb 2000002 (zcr l hl 234 [.ept (λ_:Unit=>[.fn fp []]) () 0] (λv=>!p v) rfl (λv hv=>zfk fp p v (Z v hv))) rfl) rfl rfl rfl (kS _) rfl rfl ⟨⟨_,_,rfl,rfl,kR _,rfl⟩,trivial⟩ rfl rfl rfl rfl ?_;refine ya ?_;apply yG;refine ya ?_;refine zbt [(2000000,8)] (zej (dl (λv=>!p v) l) (jQ (zhn _ _) hl)) rfl rfl rfl (kS _) rfl rfl ⟨⟨_,_,rfl,rfl,kR _,rfl⟩,trivial⟩ rfl rfl rfl rfl ?_;apply yG;refine ya ?_;refine zbt [(2000000,8),(2000002,12)] (zjb 2000002 (zdq (srtI (dl (λv=>!p v) l)) (by rw[zgJ];exact jQ (zhn _ _) hl)) rfl) rfl rfl rfl (kS _) rfl rfl ⟨⟨_,_,rfl,rfl,kR _,rfl⟩,trivial⟩ rfl rfl rfl rfl ?_;refine yh ?_;refine kE ?_;refine kA (k9 (k:=12) rfl) ?_;refine gq ?_;all_goals exact zR
def Mn.aV(m:Mn)(v:Int):Int:=if ckMV m v=0 then m.ab v else 0
def Mn.pV(m:Mn)(v:Int):Int:=if ckMV m v=0 then m.p v else 0
def posI(v:Int):Bool:=decide (0<v)
def mngs(m:Mn)(s:Sg):List Int:=
 if s.Kind=2 then coll posI [m.aV s.Value]else if s.Color then[0]else if m.pV s.Value=3 then coll posI [s.Value,m.aV s.Value]else 0::coll posI [m.aV s.Value]
def zbQ(v:Int):Fn prog 178 [iv v] (.bool (posI v)):=by
 refine kF func178 ntmps178 (λg w d=>?_);refine gq ?_;all_goals exact zR
def zel(m:Mn)(s:Sg):Fn prog 129 [mnA m,sgA s] (yc (mngs m s)):=by
 refine kF func129 ntmps129 (λg w d=>?_);refine gc (zgL m s.Value) ?_;refine gc (zdY m s.Value) ?_;refine gd ?_ ?_<;>intro Z
 ·refine gq ?_;refine yD intE [_] ?_;refine ya ?_;refine kU (k9 (k:=29) rfl) ?_;refine Ex.call rfl rfl rfl (zbv [m.aV s.Value] (by simp) _ posI (λv _=>zbQ v)) rfl ?_;refine gq ?_;all_goals(simp[mngs,Z])
 refine gd ?_ ?_<;>intro T
 ·apply ye;refine yD intE [_] ?_;refine yh ?_;refine kE ?_;refine kA (k9 (k:=35) rfl) ?_;refine gq ?_;all_goals(simp[mngs, *];rfl)
 refine gd ?_ ?_<;>intro V
 ·have U:m.pV s.Value=3:=V;refine gq ?_;refine yD intE [_,_] ?_;refine ya ?_;refine kU (k9 (k:=42) rfl) ?_;refine Ex.call rfl rfl rfl (zbv [s.Value,m.aV s.Value] (by simp) _ posI (λv _=>zbQ v)) rfl ?_;refine gq ?_;all_goals(simp[mngs,Z,T,U])
 have U:¬m.pV s.Value=3:=V;have Q:(coll posI [m.aV s.Value]).length<=1:=zgf _ _;refine gq ?_;refine yD intE [_] ?_;refine gq ?_;refine yD intE [_] ?_;refine ya ?_;refine kU (k9 (k:=47) rfl) ?_;refine Ex.call rfl rfl rfl (zbv [m.aV s.Value] (by simp) _ posI (λv _=>zbQ v)) rfl ?_;refine kK ?_;refine yh ?_;refine kE ?_;refine kA (k9 (k:=45) rfl) ?_;refine gq ?_;all_goals(simp[mngs, *];rfl)
end
section
attribute [local irreducible] Pur yA yC Ex X Fn Imp LeV LeB FnO It yH
def yV(l:List Sg):Nat->List Int
 |0=>[]
 |k+1=>yV l k++(match l[k]? with|some s=>if s.Kind=3 then[(k:Int)]else[]|none=>[])
def zbR(l:List Sg):∀k,(yV l k).length<=k
 |0=>jD _
 |k+1=>by
  have:=zbR l k;simp only[yV,jE];split
  ·split<;>simp<;>omega
  ·simp;omega
def zid(l:List Sg)(hl:l.length<=1000):Fn prog 248 [sgsA l] (yc (yV l l.length)):=by
 refine kF func248 ntmps248 (λg w d=>?_);apply ye;refine ya ?_;apply yG;refine yh ?_;iterate 2 apply yf
 refine kJ (yI intE 3 1 3 3 rfl rfl) ?_;apply yj;refine yE ?_;apply kB;refine zu (λk=>[(3,.own 3),(6,sgsA l),(7,iv l.length),(8,iv (k:Int))]) (λk=>[(3,.row intE (yV l k) 3 1)]) l.length (λk J=>?_) (h0:=yd);refine gd ?_ ?_<;>intro T
 ·obtain⟨s,hs⟩:∃s,l[k]? =some s:=⟨_,lgg (by omega)⟩;have Q:l[(k:Int).toNat]? =some s:=by simpa using hs
  have N:=zbR l k;refine gd ?_ ?_<;>intro V
  ·have Z:yV l k++[(k:Int)]=yV l (k+1):=by simp[yV,hs,V]
   refine gq ?_;refine yD intE [_] ?_;refine gq ?_;refine yz (k+1)
  ·have Z:yV l k=yV l (k+1):=by simp[yV,hs,V]
   refine gq ?_;refine yz (k+1)
 ·have U:k=l.length:=by omega
  subst U;apply kO;apply ye;refine yO ?_;refine kE ?_;refine kA (k9 (k:=3) rfl) ?_;refine gq ?_;all_goals exact zR
end
section
attribute [local irreducible] Pur yA yC Ex X Fn Imp LeV LeB FnO It yH
def sgF(m:Mn)(l:List Sg)(k:Nat)(s:Sg):Int:=
 if s.Kind=1\/s.Kind=2 then(if 1<=s.Value/\s.Value<=8 then 0 else 2)
 else if s.Kind=3 then(match k with|0=>13|j+1=>match l[j]? with|some p=>if p.Kind=3\/(mngs m p).length=0 then 13 else 0|none=>13)
 else 8
def zan(m:Mn)(l:List Sg):Nat->List Sg->Int
 |_,[]=>0
 |k,s::r=>if sgF m l k s=0 then zan m l (k+1) r else sgF m l k s
def ckD(m:Mn)(l:List Sg):Int:=if ckM m=0 then zan m l 0 l else ckM m
def zdt{m:Mn}{l:List Sg}{k:Nat}{s:Sg}(h:l[k]? =some s)(h0:sgF m l k s=0):zan m l k (l.drop k)=zan m l (k+1) (l.drop (k+1)):=by
 have Z:k<l.length:=(j1.1 h).1;rw[jG Z];have:l[k]=s:=(j1.1 h).2;rw[this];simp only[zan,h0,if_true]
theorem zbS{m:Mn}{l:List Sg}{k:Nat}{s:Sg}(h:l[k]? =some s)(h0:sgF m l k s≠0):zan m l k (l.drop k)=sgF m l k s:=by
 have Z:k<l.length:=(j1.1 h).1;rw[jG Z];have:l[k]=s:=(j1.1 h).2;rw[this];simp only[zan,j4 h0]
def znm{m:Mn}{l:List Sg}{k:Nat}{s:Sg}(Q:k<l.length)(Z:s.Kind=3):sgF m l k s=if((k:Int)=0\/(l.getD ((k:Int)-1).toNat default).Kind=3)\/((mngs m (l.getD ((k:Int)-1).toNat default)).length:Int)=0 then 13 else 0:=by
 unfold sgF;rw[j4 (by omega),j3 Z];cases k with
 |zero=>simp
 |succ j=>
  have e:(((j+1:Nat):Int)-1).toNat=j:=by omega
  have V:l[j]? =some (l.getD j default):=by rw[j8,lgg (by omega)];rfl
  rw[e];simp only[V];generalize l.getD j default=p;by_cases U:p.Kind=3
  ·simp[U]
  ·by_cases T:(mngs m p).length=0
   ·rw[j3 (.inr T),j3 (.inr (by omega))]
   ·rw[j4 (by omega),j4 (by omega)]
def zb5(m:Mn)(l:List Sg)(hl:l.length<=1000):Fn prog 76 [mnA m,sgsA l] (iv (ckD m l)):=by
 refine kF func76 ntmps76 (λg w d=>?_);refine gc (zaV m) ?_;refine gd ?_ ?_<;>intro T
 ·refine gq ?_;all_goals(first|rfl|(unfold ckD;rw[j4 T]))
 apply yk;apply yf;apply ye;refine yE ?_;apply kB;refine zM (λk=>[(1,sgsA l),(2,.ptr 2 0 0 0),(13,sgsA l),(14,iv l.length),(15,iv (k:Int))]) (λk=>[(2,.box (mnE m) 23)]) (λk=>k<=l.length/\ckD m l=zan m l k (l.drop k)) l.length (λk H=>?_) (hJ:=by exact⟨by omega,by unfold ckD;rw[j3 T];rfl⟩) (h0:=yd);obtain⟨G,Z⟩:=H;refine gd ?_ ?_<;>intro E
 ·obtain⟨s,hs⟩:∃s,l[k]? =some s:=⟨_,lgg (by omega)⟩;have xT:l[(k:Int).toNat]? =some s:=by simpa using hs
  refine gd ?_ ?_<;>intro U
  ·refine gd ?_ ?_<;>intro J
   ·apply ye;(iterate 3 refine ya ?_);refine kI 3 ?_;refine yp ?_;(iterate 3 refine kG ?_);refine gf ?_ ?_<;>intro x4
    ·have V:sgF m l k s=2:=by unfold sgF;rw[j3 (.inl U),j4 (by omega)]
     refine gq ?_;all_goals(rw[Z,zbS hs (by rw[V];decide),V])
    have h0:sgF m l k s=0:=by unfold sgF;rw[j3 (.inl U),j3 (by omega)]
    refine gq ?_;refine yz (k+1) (hJ:=by exact⟨by omega,by rw[Z,zdt hs h0]⟩)
   ·exact absurd U J
  ·refine gd ?_ ?_<;>intro Q
   ·apply ye;(iterate 3 refine ya ?_);refine kI 3 ?_;refine yp ?_;(iterate 3 refine kG ?_);refine gf ?_ ?_<;>intro x3
    ·have V:sgF m l k s=2:=by unfold sgF;rw[j3 (.inr Q),j4 (by omega)]
     refine gq ?_;all_goals(rw[Z,zbS hs (by rw[V];decide),V])
    have h0:sgF m l k s=0:=by unfold sgF;rw[j3 (.inr Q),j3 (by omega)]
    refine gq ?_;refine yz (k+1) (hJ:=by exact⟨by omega,by rw[Z,zdt hs h0]⟩)
   ·refine gd ?_ ?_<;>intro N
    ·apply yf;refine yW [35,36,37,38,39,40,41,42,43,44,45,46,47,48,49,50,51,52,53,54,55,56] [0,1,3,7,7,23,63,127,255,511,1023,2047,4095,4095,4095,20479,61439,126975,262143,524287,1048575,2097151] mo ?_;(iterate 3 refine yb ?_);(iterate 7 refine kM ?_);(iterate 2 refine yb ?_);(iterate 6 refine kM ?_);refine kZ (zel m _) ?_;(iterate 2 refine kM ?_);refine yb ?_;refine yF ?_;refine gd ?_ ?_<;>intro I
     ·have V:sgF m l k s=13:=by rw[znm (by omega) N,j3 I]
      refine gq ?_;all_goals(rw[Z,zbS hs (by rw[V];decide),V])
     have h0:sgF m l k s=0:=by rw[znm (by omega) N,j4 (λh=>by omega)]
     refine gq ?_;refine yz (k+1) (hJ:=by exact⟨by omega,by rw[Z,zdt hs h0]⟩)
    ·have V:sgF m l k s=8:=by unfold sgF;rw[j4 (by omega),j4 (by omega)]
     refine gq ?_;all_goals(rw[Z,zbS hs (by rw[V];decide),V])
 ·refine gq ?_;all_goals(rw[Z,w8 (by omega)];rfl)
end
section
attribute [local irreducible] Pur yA yC Ex X Fn Imp LeV LeB FnO It yH
def zar{m:Mn}{l:List Sg}(h:zan m l 0 l=0):∀k,k<=l.length->zan m l k (l.drop k)=0/\∀i s,i<k->l[i]? =some s->sgF m l i s=0
 |0,_=>⟨h,λi s hi=>absurd hi (wT i)⟩
 |k+1,T=>by
  obtain⟨Z,U⟩:=zar h k (by omega);have hs:l[k]? =some l[k]:=lgg (by omega)
  have h0:sgF m l k l[k]=0:=by
   by_cases h0:sgF m l k l[k]=0
   ·exact h0
   ·rw[zbS hs h0]at Z;exact Z
  refine⟨by rw[←zdt hs h0];exact Z,λi s hi he=>?_⟩;rcases w6.1 hi with V|V
  ·exact U i s V he
  ·subst V;rw[hs]at he;injection he with he;subst he;exact h0
def ze0{m:Mn}{l:List Sg}(h:zan m l 0 l=0):∀k,k<=l.length->∀x,x∈yV l k->∃(j:Nat)(s p:Sg),x=((j+1:Nat):Int)/\l[j+1]? =some s/\l[j]? =some p
 |0,_,x,hx=>by simp[yV]at hx
 |k+1,Z,x,hx=>by
  simp only[yV,wN]at hx;rcases hx with hx|hx
  ·exact ze0 h k (by omega) x hx
  ·have hs:l[k]? =some l[k]:=lgg (by omega);simp only[hs]at hx;split at hx
   ·rename_i V;have h0:=(zar h (k+1) Z).2 k _ (by omega) hs;simp at hx;cases k with
    |zero=>unfold sgF at h0;rw[j4 (by omega),j3 V]at h0;simp at h0
    |succ j=>exact⟨j,_,_,hx,hs,lgg (by omega)⟩
   ·simp at hx
def zem(l:List Sg)(i:Int):Option Sg:=l[(i-1).toNat]?
def mnAt(m:Mn)(l:List Sg)(i:Int):List Int:=match zem l i with|some p=>mngs m p|none=>[]
def mnsD(m:Mn)(l:List Sg):List (List Int):=(yV l l.length).map (mnAt m l)
def zoM{m:Mn}{l:List Sg}{L:List Int}{k:Nat}{x:Int}{p:Sg}(h:L[k]? =some x)(Z:l[(x-1).toNat]? =some p):(L.take k).map (mnAt m l)++[mngs m p]=(L.take (k+1)).map (mnAt m l):=by
 have e:mnAt m l x=mngs m p:=by unfold mnAt zem;rw[Z]
 rw[jF,h];simp[e]
def C_dot_Meanings(m:Mn)(l:List Sg)(hl:l.length<=1000):Fn prog 246 [mnA m,sgsA l] (.tup [zc6 (if ckD m l=0 then mnsD m l else[]),iv (ckD m l)]):=by
 refine kF func246 ntmps246 (λg w d=>?_);refine gc (zb5 m l hl) ?_;refine gd ?_ ?_<;>intro Z
 ·apply ye;refine yE ?_;refine kE ?_;refine kA (yd (ts:=[(4,zc6 []),(5,iv (ckD m l))]) (hs:=[])) ?_;refine ym ?_ ?_;all_goals(first|(simp[Z];done)|(rw[j3 Z,←V];rfl)|(rw[j4 Z])|exact zE Z|rfl)
 apply yk;apply ye;refine yh ?_;iterate 2 apply yf
 refine kJ (yI zjh 46 1 7 7 rfl rfl) ?_
 have U:zan m l 0 l=0:=by unfold ckD at Z;split at Z
                          ·exact Z
                          ·exact absurd Z (by assumption)
 refine gq ?_;refine yP (zid l hl) ?_;refine yO ?_;apply kB;have I:=zbR l l.length;refine zu (λk=>[(1,sgsA l),(2,.ptr 2 0 0 0),(7,.own 7),(17,yc (yV l l.length)),(18,iv (yV l l.length).length),(19,iv (k:Int)),(5,iv 0)]) (λk=>[(2,.box (mnE m) 23),(7,.row zjh (((yV l l.length).take k).map (mnAt m l)) 46 1)]) ((yV l l.length).length) (λk hk=>?_) (h0:=yd);refine gd ?_ ?_<;>intro H
 ·obtain⟨x,hx⟩:∃x,(yV l l.length)[k]? =some x:=⟨_,lgg (by omega)⟩;have G:(yV l l.length)[(k:Int).toNat]? =some x:=by simpa using hx
  obtain⟨j,s,p,E,T,Q⟩:=ze0 U l.length (jD _) x (j6 hx);have xT:j+1<l.length:=(j1.1 T).1;have hp:l[(x-1).toNat]? =some p:=by rw[show(x-1).toNat=j by omega];exact Q
  have N:=zoM (m:=m) hx hp;have x4:(((yV l l.length).take k).map (mnAt m l)).length<=1000:=by simp;omega
  refine gq ?_;refine yW [23,24,25,26,27,28,29,30,31] [0,0,0,0,8,28,60,126,254,511,1023] mo ?_;iterate 7 refine yb ?_
  refine yL (zel m _) ?_;refine ChM.step rfl rfl rfl (zD (k:=31) (enc:=zjh) (l:=[_]) zvp ty46 ze46 (by decide) rfl rfl rfl rfl (by decide) (by decide) (λ_=>rfl) rfl) rfl ?_;refine yF ?_;refine gq ?_;refine yz (k+1)
 ·have J:k=(yV l l.length).length:=by omega
  subst J;have V:((yV l l.length).take (yV l l.length).length).map (mnAt m l)=mnsD m l:=by rw[jH];rfl
  apply kO;apply ye;refine yE ?_;refine kE ?_;refine kA (k9 (k:=7) rfl) ?_;refine ym ?_ ?_;all_goals(first|(simp[Z];done)|(rw[j3 Z,←V];rfl)|(rw[j4 Z])|exact zE Z|rfl)
end
section
attribute [local irreducible] Pur yA yC Ex X Fn Imp LeV LeB FnO It yH
def zpj(m:Mn)(s:Sg):(mngs m s).length<=2:=by
 unfold mngs;split
 ·exact jQ (zgf _ _) (by simp)
 ·split
  ·simp
  ·split
   ·exact zgf _ _
   ·have:=zgf posI [m.aV s.Value];simp at this⊢;omega
def zjF{m:Mn}{l:List Sg}{x:List Int}(h:x∈mnsD m l):x.length<=2:=by
 obtain⟨i,_,rfl⟩:=jW.1 h;unfold mnAt;split
 ·exact zpj _ _
 ·simp
def zgg(m:Mn)(l:List Sg):(mnsD m l).length<=l.length:=by simpa[mnsD]using zbR l l.length
end
section
attribute [local irreducible] Pur yA yC Ex X Fn Imp LeV LeB FnO It yH
def zie(l:List Sg)(i:Int):Int:=match l[(i+1).toNat]? with|some s=>s.Value|none=>9
def zbw(m:Mn)(l:List Sg)(i:Int)(p:Sg):Int:=
 if(mngs m p).length=2 then(if zie l i<=p.Value then m.aV p.Value else if m.pV p.Value=3 then p.Value else 0)else(mngs m p).headD 0
def zdl(m:Mn)(l:List Sg)(i:Int):Int:=match zem l i with|some p=>zbw m l i p|none=>0
def zl(m:Mn)(l:List Sg):List Int:=(yV l l.length).map (zdl m l)
def zoN{m:Mn}{l:List Sg}{L:List Int}{k:Nat}{x:Int}{p:Sg}(h:L[k]? =some x)(Z:l[(x-1).toNat]? =some p):(L.take k).map (zdl m l)++[zbw m l x p]=(L.take (k+1)).map (zdl m l):=by
 have e:zdl m l x=zbw m l x p:=by unfold zdl zem;rw[Z]
 rw[jF,h];simp[e]
def zlv{m:Mn}{l:List Sg}(h:zan m l 0 l=0):∀k,k<=l.length->∀x,x∈yV l k->∀p,l[(x-1).toNat]? =some p->(mngs m p).length≠0
 |0,_,x,hx=>by simp[yV]at hx
 |k+1,U,x,hx=>by
  simp only[yV,wN]at hx;rcases hx with hx|hx
  ·exact zlv h k (by omega) x hx
  ·have hs:l[k]? =some l[k]:=lgg (by omega);simp only[hs]at hx;split at hx
   ·rename_i Z;have h0:=(zar h (k+1) U).2 k _ (by omega) hs;simp at hx;intro p V;cases k with
    |zero=>unfold sgF at h0;rw[j4 (by omega),j3 Z]at h0;simp at h0
    |succ j=>
     rw[show(x-1).toNat=j by omega]at V;unfold sgF at h0;rw[j4 (by omega),j3 Z]at h0;simp only[V]at h0;intro T;rw[j3 (.inr T)]at h0;simp at h0
   ·simp at hx
def zpk{m:Mn}{l:List Sg}{k:Nat}{x:Int}{p:Sg}(h:(yV l l.length)[k]? =some x)(Z:l[(x-1).toNat]? =some p):(mnsD m l)[k]? =some (mngs m p):=by
 have e:mnAt m l x=mngs m p:=by unfold mnAt zem;rw[Z]
 rw[mnsD,jO,h];simp[e]
def zkm(l:List Sg)(hl:l.length<=1000)(i:Int)(h0:0<=i)(V:i<=1000):Fn prog 247 [iv i,.ept (λ_:Unit=>[sgsA l]) () 0] (iv (zie l i)):=by
 refine kF func247 ntmps247 (λg w d=>?_);refine gd ?_ ?_<;>intro Z
 ·obtain⟨s,hs⟩:∃s,l[(i+1).toNat]? =some s:=⟨_,lgg (by omega)⟩;refine gq ?_;all_goals(congr 1;unfold zie;rw[hs])
 have hs:l[(i+1).toNat]? =none:=wR (by omega);refine gq ?_;all_goals(congr 1;unfold zie;rw[hs])
def zmC(m:Mn)(l:List Sg)(hl:l.length<=1000):Fn prog 186 [mnA m,sgsA l] (.tup [yc (if ckD m l=0 then zl m l else[]),iv (ckD m l)]):=by
 refine kF func186 ntmps186 (λg w d=>?_);refine gq ?_;refine zeW ?_;refine gc (C_dot_Meanings m l hl) ?_;refine gd ?_ ?_<;>intro Z
 ·apply ye;refine yE ?_;refine kE ?_;refine kA (yd (ts:=[(4,yc []),(5,iv (ckD m l))]) (hs:=[])) ?_;refine ym ?_ ?_;all_goals(first|(simp[Z];done)|(rw[j3 Z,←T];rfl)|(rw[j4 Z])|exact zE Z|rfl)
 apply yk;apply yf;refine kJ (y5 (k:=3) rfl rfl) ?_;have H:(if ckD m l=0 then mnsD m l else[])=mnsD m l:=j3 Z;rw[H]
 have N:zan m l 0 l=0:=by unfold ckD at Z;split at Z
                          ·exact Z
                          ·exact absurd Z (by assumption)
 apply yj;iterate 2 refine ya ?_
 apply yG;refine yh ?_;iterate 2 apply yf
 refine kJ (yI intE 3 1 9 9 rfl rfl) ?_;refine gq ?_;refine yP (zid l hl) ?_;refine yO ?_;apply kB;have x1:=zbR l l.length;refine zu (λk=>[(2,.ptr 2 0 0 0),(3,.ept (λ_:Unit=>[sgsA l]) () 0),(5,iv 0),(6,zc6 (mnsD m l)),(8,.fn 247 [.ept (λ_:Unit=>[sgsA l]) () 0]),(9,.own 9),(29,yc (yV l l.length)),(30,iv (yV l l.length).length),(31,iv (k:Int))]) (λk=>[(2,.box (mnE m) 23),(9,.row intE (((yV l l.length).take k).map (zdl m l)) 3 1)]) ((yV l l.length).length) (λk hk=>?_) (h0:=yd);refine gd ?_ ?_<;>intro x0
 ·obtain⟨x,hx⟩:∃x,(yV l l.length)[k]? =some x:=⟨_,lgg (by omega)⟩;have w2:(yV l l.length)[(k:Int).toNat]? =some x:=by simpa using hx
  obtain⟨j,s,p,v9,G,E⟩:=ze0 N l.length (jD _) x (j6 hx);have v8:j+1<l.length:=(j1.1 G).1;have hp:l[(x-1).toNat]? =some p:=by rw[show(x-1).toNat=j by omega];exact E
  have xT:=zlv N l.length (jD _) x (j6 hx) p hp;have v5:(mnsD m l)[(k:Int).toNat]? =some (mngs m p):=by simpa using zpk (m:=m) hx hp
  obtain⟨c0,J⟩:∃c0,(mngs m p)[(0:Int).toNat]? =some c0:=⟨_,lgg (by simp;omega)⟩
  have x4:(mngs m p).headD 0=c0:=by
   cases hq:mngs m p with
   |nil=>simp[hq]at xT
   |cons a b=>simp[hq]at J;simp[J]
  have V:=zoN (m:=m) hx hp;have v4:(((yV l l.length).take k).map (zdl m l)).length<=1000:=by simp;omega
  refine gd ?_ ?_<;>intro v3
  ·refine gc (zdY m p.Value) ?_;refine gc (zgL m p.Value) ?_;refine gc (zkm l hl x (by omega) (by omega)) ?_;refine gd ?_ ?_<;>intro x3
   ·have U:zbw m l x p=m.aV p.Value:=by unfold zbw;rw[j3 (by omega),j3 x3]
    rw[U]at V;refine gq ?_;refine yD intE [_] ?_;refine gq ?_;refine yz (k+1)
   ·refine gd ?_ ?_<;>intro I
    ·have Q:m.pV p.Value=3:=I;have U:zbw m l x p=p.Value:=by unfold zbw;rw[j3 (by omega),j4 (by omega),j3 Q]
     rw[U]at V;refine gq ?_;refine yD intE [_] ?_;refine gq ?_;refine yz (k+1)
    ·have Q:¬m.pV p.Value=3:=I;have U:zbw m l x p=0:=by unfold zbw;rw[j3 (by omega),j4 (by omega),j4 Q]
     rw[U]at V;refine gq ?_;refine yD intE [_] ?_;refine gq ?_;refine yz (k+1)
  ·have U:zbw m l x p=c0:=by unfold zbw;rw[j4 (by omega),x4]
   rw[U]at V;refine gq ?_;refine yD intE [_] ?_;refine gq ?_;refine yz (k+1)
 ·have x2:k=(yV l l.length).length:=by omega
  subst x2;have T:((yV l l.length).take (yV l l.length).length).map (zdl m l)=zl m l:=by rw[jH];rfl
  apply kO;apply ye;refine yE ?_;refine kE ?_;refine kA (k9 (k:=9) rfl) ?_;refine ym ?_ ?_;all_goals(first|(simp[Z];done)|(rw[j3 Z,←T];rfl)|(rw[j4 Z])|exact zE Z|rfl)
end
section
attribute [local irreducible] Pur yA yC Ex X Fn Imp LeV LeB FnO It yH
attribute [local irreducible] mnsD ckD
end
section
attribute [local irreducible] Pur yA yC Ex X Fn Imp LeV LeB FnO It yH
def zpl(x:Int)(l:List Int):decide (0<=fidx (λu=>decide (x=u)) l)=decide (x∈l):=by
 by_cases h:x∈l
 ·have:l.findIdx (λu=>decide (x=u))<l.length:=List.findIdx_lt_length_of_exists ⟨x,h,by simp⟩;simp only[fidx,j3 this,h];simp
 ·have V:l.findIdx (λu=>decide (x=u))=l.length:=uG.2 λu Z=>jC λe=>h (e▸Z)
  have:¬l.findIdx (λu=>decide (x=u))<l.length:=by omega
  simp only[fidx,j4 this,h];simp
def zdL(l:List Int)(x:Int)(hl:l.length<=4000000000):Fn prog 294 [yc l,iv x] (iv (fidx (λu=>decide (x=u)) l)):=by
 refine kF func294 ntmps294 (λg w d=>?_);apply ye;refine yh ?_;apply yf;apply ye;refine yE ?_;apply kB;refine zM (λk=>[(0,yc l),(1,iv x),(7,iv l.length),(8,iv (k:Int))]) (λk=>[]) (λk=>k<=l.length/\∀i u,i<k->l[i]? =some u->decide (x=u)=false) l.length (λk T=>?_) (hJ:=by exact⟨by omega,λi u h=>absurd h (wT i)⟩) (h0:=yd);obtain⟨Q,Z⟩:=T;refine gd ?_ ?_<;>intro N
 ·obtain⟨v,hv⟩:∃v,l[k]? =some v:=⟨_,lgg (by omega)⟩;have J:l[(k:Int).toNat]? =some v:=by simpa using hv
  refine gd ?_ ?_<;>intro V
  ·refine gq ?_;all_goals(congr 1;exact(zma hv (by simpa using V) Z).symm)
  refine gq ?_
  refine yz (k+1) (hJ:=by
   refine⟨by omega,λi u hi U=>?_⟩;rcases w6.1 hi with h|h
   ·exact Z i u h U
   ·subst h;rw[hv]at U;injection U with U;subst U;simpa using V)
 ·refine gq ?_;all_goals(congr 1;exact(zjY (λi u hi=>Z i u (by omega))).symm)
def yU(l:List Int)(x:Int)(hl:l.length<=4000000000):Fn prog 250 [yc l,iv x] (.bool (decide (x∈l))):=by
 refine kF func250 ntmps250 (λg w d=>?_);refine gc (zdL l x hl) ?_;all_goals(congr 1;exact zpl x l)
def zjo(v:Int)(a:List Int)(b:List Bool)(Q:1<=a.length)(N:1<=b.length)(V:a.length<=1000)(U:b.length<=1000):FnO prog 251 [iv v,.ptr 2000000 0 0 0,.ptr 2000001 0 0 0] [(2000000,.box [.own 2000002] 46),(2000001,.box [.own 2000003] 107),(2000002,.row intE a 3 1),(2000003,.row za7 b 4 1)] [2000000,2000001,2000002,2000003] (.tup []) [(2000000,.box [.own 2000002] 46),(2000001,.box [.own 2000003] 107),(2000002,.row intE (a.set ((a.length:Int)-1).toNat v) 3 1),(2000003,.row za7 (b.set ((b.length:Int)-1).toNat (decide (v=0))) 4 1)]:=by
 refine bF (ts:=[(0,iv v),(1,.ptr 2000000 0 0 0),(2,.ptr 2000001 0 0 0)]) (rv:=[]) (n:=17) (cs:=[.ptr 2000000 0 0 0,.ptr 2000001 0 0 0,.own 2000002,.own 2000003]) (by kernel_rfl) func251 rfl ntmps251 rfl rfl (by simp) rfl rfl rfl rfl (λg w d vs=>?_);refine kW [⟨0,4,.own 2000002,[]⟩,⟨1,5,.own 2000002,[]⟩,⟨2,6,iv a.length,[1]⟩,⟨3,7,iv ((a.length:Int)-1),[1,2]⟩,⟨4,8,.own 2000003,[]⟩,⟨5,9,.own 2000003,[]⟩,⟨6,10,iv b.length,[5]⟩,⟨7,11,iv ((b.length:Int)-1),[5,6]⟩,⟨8,12,iv v,[]⟩,⟨9,13,iv v,[]⟩,⟨10,14,.bool (decide (v=0)),[9]⟩,⟨11,15,.ptr 2000002 1 ((a.length:Int)-1).toNat 0,[8,2,1,3,0]⟩,⟨13,16,.ptr 2000003 1 ((b.length:Int)-1).toNat 0,[12,11,10,9,8,6,5,3,2,1,0,7,4]⟩] [(12,[3,2,1,0,8,11]),(14,[11,9,8,7,6,5,4,3,2,1,0,12,10,13])] (λj=>⟨[(0,iv v),(1,.ptr 2000000 0 0 0),(2,.ptr 2000001 0 0 0)],match j with|0=>[(1000001,.hold vs [.ptr 2000000 0 0 0,.ptr 2000001 0 0 0,.own 2000002,.own 2000003]),(2000000,.box [.own 2000002] 46),(2000001,.box [.own 2000003] 107),(2000002,.row intE (a) 3 1),(2000003,.row za7 (b) 4 1)]|1=>[(1000001,.hold vs [.ptr 2000000 0 0 0,.ptr 2000001 0 0 0,.own 2000002,.own 2000003]),(2000000,.box [.own 2000002] 46),(2000001,.box [.own 2000003] 107),(2000002,.row intE (a.set ((a.length:Int)-1).toNat v) 3 1),(2000003,.row za7 (b) 4 1)]|_=>[(1000001,.hold vs [.ptr 2000000 0 0 0,.ptr 2000001 0 0 0,.own 2000002,.own 2000003]),(2000000,.box [.own 2000002] 46),(2000001,.box [.own 2000003] 107),(2000002,.row intE (a.set ((a.length:Int)-1).toNat v) 3 1),(2000003,.row za7 (b.set ((b.length:Int)-1).toNat (decide (v=0))) 4 1)]⟩) mo (by kernel_rfl) (zg (yd)) (λj T=>?_) (λj c Z β hβ=>?_) ?_
 ·rcases j with _|_|_|j
  ·first
    |refine⟨.inr ⟨_,rfl,rfl,rfl,rfl,k8 (zai rfl rfl rfl ty46)⟩,?_⟩
    |refine⟨.inr ⟨_,rfl,rfl,rfl,rfl,k8 (zbh rfl rfl rfl ty46)⟩,?_⟩
    |refine⟨.inr ⟨_,rfl,rfl,rfl,rfl,k8 (zbi rfl rfl (by assumption) rfl rfl ty46)⟩,?_⟩
   first
    |refine⟨.inr ⟨_,rfl,rfl,rfl,rfl,k8 (zai rfl rfl rfl ty46)⟩,?_⟩
    |refine⟨.inr ⟨_,rfl,rfl,rfl,rfl,k8 (zbh rfl rfl rfl ty46)⟩,?_⟩
    |refine⟨.inr ⟨_,rfl,rfl,rfl,rfl,k8 (zbi rfl rfl (by assumption) rfl rfl ty46)⟩,?_⟩
   first
    |refine⟨.inr ⟨_,rfl,rfl,rfl,rfl,k8 (zgQ rfl sl46)⟩,?_⟩
    |refine⟨.inr ⟨_,rfl,rfl,rfl,rfl,k8 (zfe rfl rfl sl46)⟩,?_⟩
    |refine⟨.inr ⟨_,rfl,rfl,rfl,rfl,k8 (zd1 rfl sl46)⟩,?_⟩
   refine⟨.inr ⟨_,rfl,rfl,rfl,rfl,k8 (zoo rfl rfl (uO _ (by omega)))⟩,?_⟩
   first
    |refine⟨.inr ⟨_,rfl,rfl,rfl,rfl,k8 (zai rfl rfl rfl zdb)⟩,?_⟩
    |refine⟨.inr ⟨_,rfl,rfl,rfl,rfl,k8 (zbh rfl rfl rfl zdb)⟩,?_⟩
    |refine⟨.inr ⟨_,rfl,rfl,rfl,rfl,k8 (zbi rfl rfl (by assumption) rfl rfl zdb)⟩,?_⟩
   first
    |refine⟨.inr ⟨_,rfl,rfl,rfl,rfl,k8 (zai rfl rfl rfl zdb)⟩,?_⟩
    |refine⟨.inr ⟨_,rfl,rfl,rfl,rfl,k8 (zbh rfl rfl rfl zdb)⟩,?_⟩
    |refine⟨.inr ⟨_,rfl,rfl,rfl,rfl,k8 (zbi rfl rfl (by assumption) rfl rfl zdb)⟩,?_⟩
   first
    |refine⟨.inr ⟨_,rfl,rfl,rfl,rfl,k8 (zgQ rfl zeZ)⟩,?_⟩
    |refine⟨.inr ⟨_,rfl,rfl,rfl,rfl,k8 (zfe rfl rfl zeZ)⟩,?_⟩
    |refine⟨.inr ⟨_,rfl,rfl,rfl,rfl,k8 (zd1 rfl zeZ)⟩,?_⟩
   refine⟨.inr ⟨_,rfl,rfl,rfl,rfl,k8 (zoo rfl rfl (uO _ (by omega)))⟩,?_⟩;(iterate 2 refine⟨.inr ⟨_,rfl,rfl,rfl,rfl,k8 (zlh rfl)⟩,?_⟩);refine⟨.inr ⟨_,rfl,rfl,rfl,rfl,k8 (zq3 rfl rfl)⟩,?_⟩
   first
    |refine⟨.inr ⟨_,rfl,rfl,rfl,rfl,k8 (zaj rfl rfl sl46 ty3 (λ_=>rfl) (by omega) (by assumption))⟩,?_⟩
    |refine⟨.inr ⟨_,rfl,rfl,rfl,rfl,k8 (zeL rfl rfl rfl sl46 ty3 (by omega) (by omega))⟩,?_⟩
   exact yw
  ·iterate 4 refine⟨.inl rfl,?_⟩
   first
    |refine⟨.inr ⟨_,rfl,rfl,rfl,rfl,k8 (zai rfl rfl rfl zdb)⟩,?_⟩
    |refine⟨.inr ⟨_,rfl,rfl,rfl,rfl,k8 (zbh rfl rfl rfl zdb)⟩,?_⟩
    |refine⟨.inr ⟨_,rfl,rfl,rfl,rfl,k8 (zbi rfl rfl (by assumption) rfl rfl zdb)⟩,?_⟩
   first
    |refine⟨.inr ⟨_,rfl,rfl,rfl,rfl,k8 (zai rfl rfl rfl zdb)⟩,?_⟩
    |refine⟨.inr ⟨_,rfl,rfl,rfl,rfl,k8 (zbh rfl rfl rfl zdb)⟩,?_⟩
    |refine⟨.inr ⟨_,rfl,rfl,rfl,rfl,k8 (zbi rfl rfl (by assumption) rfl rfl zdb)⟩,?_⟩
   first
    |refine⟨.inr ⟨_,rfl,rfl,rfl,rfl,k8 (zgQ rfl zeZ)⟩,?_⟩
    |refine⟨.inr ⟨_,rfl,rfl,rfl,rfl,k8 (zfe rfl rfl zeZ)⟩,?_⟩
    |refine⟨.inr ⟨_,rfl,rfl,rfl,rfl,k8 (zd1 rfl zeZ)⟩,?_⟩
   refine⟨.inr ⟨_,rfl,rfl,rfl,rfl,k8 (zoo rfl rfl (uO _ (by omega)))⟩,?_⟩;refine⟨.inl rfl,?_⟩;refine⟨.inr ⟨_,rfl,rfl,rfl,rfl,k8 (zlh rfl)⟩,?_⟩;refine⟨.inr ⟨_,rfl,rfl,rfl,rfl,k8 (zq3 rfl rfl)⟩,?_⟩;refine⟨.inl rfl,?_⟩
   first
    |refine⟨.inr ⟨_,rfl,rfl,rfl,rfl,k8 (zaj rfl rfl zeZ ty4 (λ_=>rfl) (by omega) (by assumption))⟩,?_⟩
    |refine⟨.inr ⟨_,rfl,rfl,rfl,rfl,k8 (zeL rfl rfl rfl zeZ ty4 (by omega) (by omega))⟩,?_⟩
   exact True.intro
  ·exact yw
  ·exact absurd (show j+3<=2 from T) (by omega)
 ·rcases j with _|_|j
  ·obtain rfl:(12,[3,2,1,0,8,11])=c:=by injection Z
   refine yo rfl (yn (st0:=⟨[(4,.own 2000002),(5,.own 2000002),(6,iv a.length),(7,iv ((a.length:Int)-1)),(8,.ifb (β 4) (.own 2000003)),(9,.ifb (β 5) (.own 2000003)),(10,.ifb (β 6) (iv b.length)),(11,.ifb (β 7) (iv ((b.length:Int)-1))),(12,iv v),(13,.ifb (β 9) (iv v)),(14,.ifb (β 10) (.bool (decide (v=0)))),(15,.ptr 2000002 1 ((a.length:Int)-1).toNat 0),(16,.ifb (β 13) (.ptr 2000003 1 ((b.length:Int)-1).toNat 0)),(0,iv v),(1,.ptr 2000000 0 0 0),(2,.ptr 2000001 0 0 0)],[(1000001,.hold vs [.ptr 2000000 0 0 0,.ptr 2000001 0 0 0,.own 2000002,.own 2000003]),(2000000,.box [.own 2000002] 46),(2000001,.box [.own 2000003] 107),(2000002,.row intE (a) 3 1),(2000003,.row za7 (b) 4 1)]⟩) (yl) ?_);refine yC.imp (zeT v rfl rfl (λ_=>rfl) (by decide) (by omega) rfl rfl rfl rfl rfl ty3) (yl)
  ·obtain rfl:(14,[11,9,8,7,6,5,4,3,2,1,0,12,10,13])=c:=by injection Z
   refine yo rfl (yn (st0:=⟨[(4,.own 2000002),(5,.own 2000002),(6,iv a.length),(7,iv ((a.length:Int)-1)),(8,.own 2000003),(9,.own 2000003),(10,iv b.length),(11,iv ((b.length:Int)-1)),(12,iv v),(13,iv v),(14,.bool (decide (v=0))),(15,.ptr 2000002 1 ((a.length:Int)-1).toNat 0),(16,.ptr 2000003 1 ((b.length:Int)-1).toNat 0),(0,iv v),(1,.ptr 2000000 0 0 0),(2,.ptr 2000001 0 0 0)],[(1000001,.hold vs [.ptr 2000000 0 0 0,.ptr 2000001 0 0 0,.own 2000002,.own 2000003]),(2000000,.box [.own 2000002] 46),(2000001,.box [.own 2000003] 107),(2000002,.row intE (a.set ((a.length:Int)-1).toNat v) 3 1),(2000003,.row za7 (b) 4 1)]⟩) (yl) ?_);refine yC.imp (zeT (decide (v=0)) rfl rfl (λ_=>rfl) (by decide) (by omega) rfl rfl rfl rfl rfl ty4) (yl)
  ·exact absurd Z (by simp)
 refine zou.mk (ts:=[]) (.inl rfl) (yd) (.many (by decide) .nil)
end
end Go.Rse
