/-
  Walks.
-/
import Derived.Test.YtbopkhoalndflaaGreatDoorUJDot1
set_option linter.all false
namespace Go.Rse
open Go Go.Proofs Go.Proofs.Tryz
section
attribute [local irreducible] Pur yA yC Ex X Fn Imp LeV LeB FnO It yH
def mkK(ch:List Int)(l:List Sg):Nat->List Int×List Bool×Nat
 |0=>([],[],0)
 |k+1=>match l[k]? with
  |some s=>if s.Kind=3 then((mkK ch l k).1.set (((mkK ch l k).1.length:Int)-1).toNat (ch.getD (mkK ch l k).2.2 0),(mkK ch l k).2.1.set (((mkK ch l k).2.1.length:Int)-1).toNat (decide (ch.getD (mkK ch l k).2.2 0=0)),(mkK ch l k).2.2+1)else((mkK ch l k).1++[0],(mkK ch l k).2.1++[false],(mkK ch l k).2.2)
  |none=>mkK ch l k
def zil{ch:List Int}{l:List Sg}{k:Nat}{s:Sg}(h:l[k]? =some s)(Z:s.Kind=3):mkK ch l (k+1)=((mkK ch l k).1.set (((mkK ch l k).1.length:Int)-1).toNat (ch.getD (mkK ch l k).2.2 0),(mkK ch l k).2.1.set (((mkK ch l k).2.1.length:Int)-1).toNat (decide (ch.getD (mkK ch l k).2.2 0=0)),(mkK ch l k).2.2+1):=by
 simp only[mkK,h,j4 Z]
def zgC{ch:List Int}{l:List Sg}{k:Nat}{s:Sg}(h:l[k]? =some s)(Z:¬s.Kind=3):mkK ch l (k+1)=((mkK ch l k).1++[0],(mkK ch l k).2.1++[false],(mkK ch l k).2.2):=by
 simp only[mkK,h,j3 Z]
theorem zim(ch:List Int)(l:List Sg):∀k,(mkK ch l k).1.length=(mkK ch l k).2.1.length/\(mkK ch l k).1.length<=k/\(mkK ch l k).2.2=(yU l k).length
 |0=>⟨rfl,jE _,rfl⟩
 |k+1=>by
  obtain⟨V,T,U⟩:=zim ch l k;cases hs:l[k]? with
  |none=>simp only[mkK,yU,hs,w4];exact⟨V,by omega,U⟩
  |some s=>
   by_cases Z:s.Kind=3
   ·rw[zil hs Z];simp[yU,hs,Z];omega
   ·rw[zgC hs Z];simp[yU,hs,Z];omega
def zf6(l:List Sg):∀(n k:Nat),k<=n->(yU l k).length<=(yU l n).length
 |0,k,h=>by have:k=0:=by omega
            subst this;exact jE _
 |n+1,k,h=>by
  rcases wD n k with Z|Z
  ·have:k=n+1:=by omega
   subst this;exact jE _
  ·have:=zf6 l n k Z;simp only[yU,jI];omega
def zkY{m:Mn}{ch:List Int}{l:List Sg}(h:zas m l 0 l=0):∀k,1<=k->k<=l.length->1<=(mkK ch l k).1.length
 |0,U,_=>by omega
 |k+1,_,V=>by
  obtain⟨s,hs⟩:∃s,l[k]? =some s:=⟨_,lgg (by omega)⟩;by_cases Z:s.Kind=3
  ·rw[zil hs Z];simp only[List.length_set];rcases xH k with h0|h0
   ·subst h0;have:=(zax h 1 V).2 0 s (by omega) hs;unfold sgF at this;rw[j3 (by omega),j4 Z]at this;simp at this
   ·exact zkY h k h0 (by omega)
  ·rw[zgC hs Z];simp
def znX{m:Mn}{l:List Sg}(h:zas m l 0 l=0){k:Nat}{s:Sg}(hs:l[k]? =some s)(Z:s.Kind=3):1<=k:=by
 rcases xH k with h0|h0
 ·subst h0;have:=(zax h 1 (j1.1 hs).1).2 0 s (by omega) hs;unfold sgF at this;rw[j3 (by omega),j4 Z]at this;simp at this
 ·exact h0
def ziO{m:Mn}{l:List Sg}(h:ckD m l=0):zas m l 0 l=0:=by
 unfold ckD at h;split at h
 ·exact h
 ·exact absurd h (by assumption)
def chOk(ch:List Int)(L:List (List Int)):Prop:=((L.zip ch).all λp=>decide (p.2∈p.1))=true
instance(ch:List Int)(L:List (List Int)):Decidable (chOk ch L):=inferInstanceAs(Decidable (_=true))
theorem zeH{ch:List Int}{L:List (List Int)}:chOk ch L↔∀(i:Nat)x v,L[i]? =some x->ch[i]? =some v->v∈x:=by
 unfold chOk;rw[jF];constructor
 ·intro h i x v hx hv;have:=h (x,v) (jS.2 ⟨i,List.getElem?_zip_eq_some.2 ⟨hx,hv⟩⟩);simpa using this
 ·rintro h⟨x,v⟩Z
  obtain⟨i,hi⟩:=jS.1 Z;obtain⟨V,U⟩:=List.getElem?_zip_eq_some.1 hi;simpa using h i x v V U
def mkE(m:Mn)(l:List Sg)(ch:List Int):Int:=if ckD m l=0 then(if(mnsD m l).length=ch.length/\chOk ch (mnsD m l)then 0 else 2)else ckD m l
def mkC(m:Mn)(l:List Sg)(ch:List Int):List Int:=if mkE m l ch=0 then(mkK ch l l.length).1 else[]
def mkA(m:Mn)(l:List Sg)(ch:List Int):List Bool:=if mkE m l ch=0 then(mkK ch l l.length).2.1 else[]
def ds9:List (List Bool):=[0,1,2,8,16,3,9,17,10,18,24,7,11,19,25,26,15,23,27,31,63,127,255].map λn=>(List.range 8).map λi=>n.testBit i
def st9(ch:List Int)(l:List Sg)(k:Nat)(D:List Bool):St:=
 let b:=λi=>D.getD i false
 ⟨[(2,yc ch),(13,.ptr 13 0 0 0),(14,.ptr 14 0 0 0),(15,.fn 251 [.ptr 13 0 0 0,.ptr 14 0 0 0]),(16,iv ((mkK ch l k).2.2:Int)),(49,sgsA l),(50,iv l.length),(51,iv (k:Int))]++cond (b 0&&!b 2) [(66,.own 101)] []++cond (b 1&&!b 2) [(67,.own 67)] []++cond (b 2&&!b 6) [(68,.own 101)] []++cond (b 3&&!b 5) [(69,.own 102)] []++cond (b 4&&!b 5) [(70,.own 70)] []++cond (b 5&&!b 7) [(71,.own 102)] [],
  cond (b 1&&!b 2) [(67,.row intE [0] 3 1)] []++cond (b 4&&!b 5) [(70,.row zbc [false] 4 1)] []++[(13,.box [cond (b 2&&!b 6) .any (.own 101)] 46),(14,.box [cond (b 5&&!b 7) .any (.own 102)] 107),(101,.row intE (cond (b 2) ((mkK ch l k).1++[0]) (mkK ch l k).1) 3 1),(102,.row zbc (cond (b 5) ((mkK ch l k).2.1++[false]) (mkK ch l k).2.1) 4 1)]⟩
set_option maxHeartbeats 4000000 in
set_option maxRecDepth 100000 in
def zlX(m:Mn)(l:List Sg)(hl:l.length<=1000)(ch:List Int):Fn prog 188 [mnA m,sgsA l,yc ch] (.tup [yc (mkC m l ch),zaV (mkA m l ch),iv (mkE m l ch)]):=by
 obtain⟨L0,hX,hM⟩:∃L0,(ckD m l=0->L0=mnsD m l)/\Fn prog 246 [mnA m,sgsA l] (.tup [zdr L0,iv (ckD m l)]):=⟨_,λh=>j4 h,C_dot_Meanings m l hl⟩;refine kC func188 ntmps188 (λg w d=>?_);refine gc hM ?_;refine gd ?_ ?_<;>intro Z
 ·have hE:mkE m l ch=ckD m l:=by unfold mkE;rw[j3 Z]
  have U:mkC m l ch=[]:=by unfold mkC;rw[j3 (by rw[hE];exact Z)]
  have T:mkA m l ch=[]:=by unfold mkA;rw[j3 (by rw[hE];exact Z)]
  apply ye;refine ya ?_;refine yq ?_;refine kE ?_;refine k8 (yd (ts:=[(6,yc []),(7,zaV []),(8,iv (ckD m l))]) (hs:=[])) ?_;refine kH (.many (by decide) (.cons (.tmp rfl (kB ?_)) (.cons (.tmp rfl (kB ?_)) (.cons (.tmp rfl (kB ?_)) .nil))));all_goals(first|exact zE U|exact zE T|exact zE hE)
 have xT:=hX Z;subst xT;have v5:=zgB m l;have J:=ziO Z;have v4:(mnsD m l).length=(yU l l.length).length:=by simp[mnsD]
 refine gd ?_ ?_<;>intro v3
 ·have hE:mkE m l ch=2:=by unfold mkE;rw[j4 Z,j3 (λh=>by have:=h.1;omega)]
  have U:mkC m l ch=[]:=by unfold mkC;rw[j3 (by omega)]
  have T:mkA m l ch=[]:=by unfold mkA;rw[j3 (by omega)]
  apply ye;refine yq ?_;refine kE ?_;refine k8 (yd (ts:=[(6,yc []),(7,zaV []),(8,iv 2)]) (hs:=[])) ?_;refine kH (.many (by decide) (.cons (.tmp rfl (kB ?_)) (.cons (.tmp rfl (kB ?_)) (.cons (.tmp rfl (kB ?_)) .nil))));all_goals(first|exact zE U|exact zE T|exact zE hE)
 apply yl;apply yf;apply ye;refine yq ?_;apply kA;refine zV (λk=>[(1,sgsA l),(2,yc ch),(9,zdr (mnsD m l)),(33,zdr (mnsD m l)),(34,iv (mnsD m l).length),(35,iv (k:Int))]) (λk=>[]) (λk=>k<=(mnsD m l).length/\∀i,i<k->∀x v,(mnsD m l)[i]? =some x->ch[i]? =some v->v∈x) ((mnsD m l).length) (λk hk=>?_) (hJ:=by exact⟨by omega,λi h=>absurd h (wU i)⟩) (h0:=yd);obtain⟨v0,I⟩:=hk;refine gd ?_ ?_<;>intro u3
 ·obtain⟨x,hx⟩:∃x,(mnsD m l)[k]? =some x:=⟨_,lgg (by omega)⟩;have u2:(mnsD m l)[(k:Int).toNat]? =some x:=by simpa using hx
  obtain⟨c,Q⟩:∃c,ch[k]? =some c:=⟨_,lgg (by omega)⟩;have v9:ch[(k:Int).toNat]? =some c:=by simpa using Q
  have u1:=zkh (j5 hx);refine gc (yT x c (by omega)) ?_;refine gd ?_ ?_<;>intro H
  ·have hE:mkE m l ch=2:=by unfold mkE;rw[j4 Z,j3 (λh=>H (zeH.1 h.2 k x c hx Q))]
   have U:mkC m l ch=[]:=by unfold mkC;rw[j3 (by omega)]
   have T:mkA m l ch=[]:=by unfold mkA;rw[j3 (by omega)]
   apply ye;refine yq ?_;refine kE ?_;refine k8 (yd (ts:=[(6,yc []),(7,zaV []),(8,iv 2)]) (hs:=[])) ?_;refine kH (.many (by decide) (.cons (.tmp rfl (kB ?_)) (.cons (.tmp rfl (kB ?_)) (.cons (.tmp rfl (kB ?_)) .nil))));all_goals(first|exact zE U|exact zE T|exact zE hE)
  refine gq ?_
  refine yo (k+1) (hJ:=by
   refine⟨by omega,λi hi x1 v1 E h2=>?_⟩;rcases wA.1 hi with h|h
   ·exact I i h x1 v1 E h2
   ·subst h;rw[hx]at E;rw[Q]at h2;injection E with E;injection h2 with h2;subst E;subst h2;exact H)
 ·have hok:chOk ch (mnsD m l):=zeH.2 λi x v hx hv=>I i (by have:=(j1.1 hx).1;omega) x v hx hv
  have hE:mkE m l ch=0:=by unfold mkE;rw[j4 Z,j4 ⟨by omega,hok⟩]
  have U:mkC m l ch=(mkK ch l l.length).1:=by unfold mkC;rw[j4 hE]
  have T:mkA m l ch=(mkK ch l l.length).2.1:=by unfold mkA;rw[j4 hE]
  apply kK;apply ye;refine zb ?_;apply yG;refine zb ?_;apply kL;apply yf;refine kJ (zbp intE 3 1 13 101 46 rfl rfl) ?_;refine kJ (zbp zbc 4 1 14 102 107 rfl rfl) ?_;apply yj;iterate 2 refine ya ?_
  apply yG;refine yi ?_;apply yf;apply ye;refine yq ?_;apply kA;refine ze (λk=>[(2,yc ch),(13,.ptr 13 0 0 0),(14,.ptr 14 0 0 0),(15,.fn 251 [.ptr 13 0 0 0,.ptr 14 0 0 0]),(16,iv ((mkK ch l k).2.2:Int)),(49,sgsA l),(50,iv l.length),(51,iv (k:Int))]) (λk=>[(13,.box [.own 101] 46),(14,.box [.own 102] 107),(101,.row intE (mkK ch l k).1 3 1),(102,.row zbc (mkK ch l k).2.1 4 1)]) l.length (λk hk=>?_) (h0:=yd);refine gd ?_ ?_<;>intro k5
  ·obtain⟨s,hs⟩:∃s,l[k]? =some s:=⟨_,lgg (by omega)⟩;have k4:l[(k:Int).toNat]? =some s:=by simpa using hs
   obtain⟨k3,j2,j0⟩:=zim ch l k;refine gd ?_ ?_<;>intro V
   ·have N:=zil (ch:=ch) hs V;have hZ:=zf6 l l.length (k+1) (by omega);have hY:(yU l (k+1)).length=(yU l k).length+1:=by simp[yU,hs,V]
    have x4:=znX J hs V;have v8:=zkY (ch:=ch) J k x4 (by omega);have hW:ch[((mkK ch l k).2.2:Int).toNat]? =some (ch.getD (mkK ch l k).2.2 0):=by rw[wC,j8,lgg (by omega)];rfl
    have x3:(mkK ch l k).1.set (((mkK ch l k).1.length:Int)-1).toNat (ch.getD (mkK ch l k).2.2 0)=(mkK ch l (k+1)).1:=by rw[N]
    have x2:(mkK ch l k).2.1.set (((mkK ch l k).2.1.length:Int)-1).toNat (decide (ch.getD (mkK ch l k).2.2 0=0))=(mkK ch l (k+1)).2.1:=by rw[N]
    have x0:((mkK ch l k).2.2:Int)+1=((mkK ch l (k+1)).2.2:Int):=by rw[N];simp
    apply ye;(iterate 5 refine ya ?_);refine zbA [(2000000,13),(2000001,14),(2000002,101),(2000003,102)] (zj0 (ch.getD (mkK ch l k).2.2 0) (mkK ch l k).1 (mkK ch l k).2.1 (by omega) (by omega) (by omega) (by omega)) rfl rfl rfl (kP _) rfl rfl ⟨⟨_,_,rfl,rfl,kT _,rfl⟩,⟨_,_,rfl,rfl,kT _,rfl⟩,⟨_,_,rfl,rfl,kT _,rfl⟩,⟨_,_,rfl,rfl,kT _,rfl⟩,trivial⟩ rfl rfl rfl rfl ?_;refine gq ?_;refine yo (k+1)
   have N:=zgC (ch:=ch) hs V;have x3:(mkK ch l k).1++[0]=(mkK ch l (k+1)).1:=by rw[N]
   have x2:(mkK ch l k).2.1++[false]=(mkK ch l (k+1)).2.1:=by rw[N]
   have x0:((mkK ch l k).2.2:Int)=((mkK ch l (k+1)).2.2:Int):=by rw[N]
   apply yl;refine zrS (ds9.map (st9 ch l k)) ds9 [(0,0,1),(0,1,2),(0,3,3),(0,4,4),(1,1,5),(1,3,6),(1,4,7),(2,0,5),(2,3,8),(2,4,9),(3,0,6),(3,1,8),(3,4,10),(4,0,7),(4,1,9),(4,3,10),(5,2,11),(5,3,12),(5,4,13),(6,1,12),(6,4,14),(7,1,13),(7,3,14),(8,0,12),(8,4,15),(9,0,13),(9,3,15),(10,0,14),(10,1,15),(11,3,16),(11,4,17),(12,2,16),(12,4,18),(13,2,17),(13,3,18),(14,1,18),(15,0,18),(16,4,19),(17,3,19),(18,2,19),(19,5,20),(20,6,21),(21,7,22)] 22 mo rfl rfl yd (by kernel_rfl) rfl (by kernel_rfl) rfl ?_ ?_
   ·repeat'(first|exact True.intro|refine⟨⟨_,_,rfl,rfl,yw rfl (yC.imp (yS (k7 (zl rfl rfl rfl ty46)) rfl rfl) yd)⟩,?_⟩|refine⟨⟨_,_,rfl,rfl,yw rfl (yC.imp (yS (zD (k:=67) (enc:=intE) (l:=[0]) sl46 ty3 ze3 (by decide) rfl rfl rfl rfl (by decide) (by decide) (λ_=>rfl) rfl) rfl rfl) yd)⟩,?_⟩|refine⟨⟨_,_,rfl,rfl,yw rfl (yC.imp (yS (k7 (zl rfl rfl rfl zdt)) rfl rfl) yd)⟩,?_⟩|refine⟨⟨_,_,rfl,rfl,yw rfl (yC.imp (yS (zD (k:=70) (enc:=zbc) (l:=[false]) zfg ty4 ze4 (by decide) rfl rfl rfl rfl (by decide) (by decide) (λ_=>rfl) rfl) rfl rfl) yd)⟩,?_⟩|refine⟨⟨_,_,rfl,rfl,yw rfl (yC.imp (zek (enc:=intE) (l:=(mkK ch l k).1) (l2:=[0]) rfl rfl rfl rfl sl46 ti3 (by decide) (by decide) (λ_=>rfl) (λ_=>rfl) (by simp;omega) rfl) yd)⟩,?_⟩|refine⟨⟨_,_,rfl,rfl,yw rfl (yC.imp (zek (enc:=zbc) (l:=(mkK ch l k).2.1) (l2:=[false]) rfl rfl rfl rfl zfg ti4 (by decide) (by decide) (λ_=>rfl) (λ_=>rfl) (by simp;omega) rfl) yd)⟩,?_⟩|refine⟨⟨_,_,rfl,rfl,yw rfl (yC.imp (zar rfl rfl rfl rfl ty46 (ltB rfl)) yd)⟩,?_⟩|refine⟨⟨_,_,rfl,rfl,yw rfl (yC.imp (zar rfl rfl rfl rfl zdt (ltB rfl)) yd)⟩,?_⟩)
   refine gq ?_;refine yo (k+1)
  ·have w2:k=l.length:=by omega
   subst w2;refine gq ?_;refine yQ [6,7,8,73,74] [0,0,1,7,15] mo ?_;(iterate 5 refine yb ?_);refine yx ?_;apply kL;refine kE ?_;refine k8 ((k9 (k:=101) rfl).trans (k9 (k:=102) rfl)) ?_;refine kH (.many (by decide) (.cons (.tmp rfl (kB ?_)) (.cons (.tmp rfl (kB ?_)) (.cons (.tmp rfl (kB ?_)) .nil))));all_goals(first|exact zE U|exact zE T|exact zE hE)
end
section
attribute [local irreducible] Pur yA yC Ex X Fn Imp LeV LeB FnO It yH
def zpZ(o:Option Sg):frB o=!(o.isSome&&clr (zn5 o)):=by cases o<;>simp[frB,zn5]
def zlY{l:List Sg}{i:Int}(h:(((((l.length:Int)<=i+1\/clr (l.getD i.toNat default)=false)\/¬(l.getD i.toNat default).Value=4)\/clr (l.getD (i+1).toNat default)=false)\/¬(l.getD (i+1).toNat default).Value=5)):zaH l i=false:=by
 unfold zaH;rcases h with(((h|h)|h)|h)|h
 ·rw[jD (show¬i+1<(l.length:Int)by omega)];simp
 ·rw[h];simp
 ·rw[jD h];simp
 ·rw[h];simp
 ·rw[jD h];simp
def zpt{l:List Sg}{i:Int}(h:i+2<(l.length:Int)/\(l.getD (i+2).toNat default).Kind=3):zaH l i=false:=by
 unfold zaH;rw[jH h.1,jH h.2];simp
def zki{l:List Sg}{i:Int}(h:(((i+1<(l.length:Int)/\clr (l.getD i.toNat default)=true)/\(l.getD i.toNat default).Value=4)/\clr (l.getD (i+1).toNat default)=true)/\(l.getD (i+1).toNat default).Value=5):zaH l i=(!(decide (i+2<(l.length:Int))&&decide ((l.getD (i+2).toNat default).Kind=3))&&frB (zdw l (-1) (i-1))&&frB (zdw l 1 (i+2))):=by
 unfold zaH;rw[jH h.1.1.1.1,h.1.1.1.2,jH h.1.1.2,h.1.2,jH h.2];rfl
attribute [local irreducible] zaH zdw frB zn5 clr
def zgD(l:List Sg)(hl:l.length<=4000000000)(i:Int)(h0:0<=i)(V:i<(l.length:Int)):Fn prog 326 [sgsA l,iv i] (.bool (zaH l i)):=by
 refine kC func326 ntmps326 (λg w d=>?_);apply ye;refine yi ?_;apply yf;apply ye;iterate 5 refine ya ?_
 refine kG 5 ?_;refine gq ?_;refine kQ (zbg _) ?_;refine gq ?_;refine kQ (zbg _) ?_;refine kF ?_;iterate 2 refine yn ?_
 iterate 7 refine kF ?_
 refine gf ?_ ?_<;>intro Z
 ·refine gq ?_;all_goals(rw[zlY Z])
 apply yl;apply ye;iterate 5 refine ya ?_
 refine kG 5 ?_;refine yn ?_;iterate 7 refine kF ?_
 refine zds ?_;iterate 2 refine ya ?_
 apply yG;iterate 2 refine ya ?_
 refine kG 2 ?_;refine gq ?_;refine kQ (zgH l hl (i-1) (-1) (.inr rfl) (by omega) (by omega) (by omega)) ?_;refine gq ?_;refine kQ (zgH l hl (i+2) 1 (.inl rfl) (by omega) (by omega) (by omega)) ?_;refine ge ?_;all_goals(rw[zki Z])
def zf7(m:Mn)(l:List Sg)(hl:l.length<=4000000000)(i:Int)(h0:0<=i)(Q:i<(l.length:Int)):Fn prog 319 [mnA m,sgsA l,iv i] (.bool (decide (m.p 4=2)&&zaH l i)):=by
 refine kC func319 ntmps319 (λg w d=>?_);apply ye;refine zZ ?_;refine yi ?_;apply yf;apply ye;iterate 5 refine ya ?_
 refine kG 5 ?_;refine gq ?_;refine kQ (zx _) ?_;refine gq ?_;refine kQ (zx _) ?_;refine gq ?_;refine kQ (y4 m 4) ?_;refine kF ?_;refine gf ?_ ?_<;>intro Z
 ·have V:(decide (m.p 4=2)&&zaH l i)=false:=by
   rcases Z with h|h
   ·rw[zlY h];simp
   ·rw[jD h];rfl
  refine gq ?_;all_goals rw[V]
 apply yl;apply yf;apply ye;iterate 5 refine ya ?_
 refine kG 5 ?_;refine yn ?_;iterate 7 refine kF ?_
 refine gf ?_ ?_<;>intro U
 ·have V:=zpt U;refine gq ?_;all_goals(rw[V];simp)
 have V:=zki Z.1
 have T:(decide (i+2<(l.length:Int))&&decide ((l.getD (i+2).toNat default).Kind=3))=false:=by
  rcases U with h|h
  ·rw[jD (show¬i+2<(l.length:Int)by omega)];rfl
  ·rw[jD h];simp
 rw[T,zpZ,zpZ]at V;refine gc (zcX l hl (i-1) (-1) (.inr rfl) (by omega) (by omega) (by omega)) ?_;refine yM (zcX l hl (i+2) 1 (.inl rfl) (by omega) (by omega) (by omega)) ?_;iterate 3 refine ya ?_
 refine zb ?_;refine kI ?_;refine ya ?_;apply yG;refine ya ?_;refine kG 1 ?_;refine gq ?_;refine kQ (zx _) ?_;refine gq ?_;refine kQ (zx _) ?_;iterate 2 refine kF ?_
 refine ge ?_;all_goals(rw[V,jH Z.2];rfl)
end
section
theorem zlZ(a:Int):coll posI [a]=if 0<a then[a]else[]:=by
 unfold coll dl posI srtI;by_cases h:0<a
 ·simp only[h,if_true,u0,decide_true,xP,Bool.not_false,List.filter_nil,List.mergeSort_singleton];rfl
 ·simp only[h,if_false,u0,decide_false,xP,Bool.not_false,List.filter_nil,List.mergeSort_nil];simp[Lib.compact,Lib.compactUpTo]
def srt2{a v:Int}(h:a<v):srtI [v,a]=[a,v]:=by
 simp_all[srtI,List.mergeSort]
theorem zp0{v a:Int}(hv:0<v)(Z:a<v):coll posI [v,a]=if 0<a then[a,v]else[v]:=by
 unfold coll;by_cases h:0<a
 ·have e:dl (λv=>!posI v) [v,a]=[v,a]:=by simp[dl,posI,h,hv]
  rw[e,srt2 Z,j4 h];have V:¬v=a:=by omega
  have U:¬a=v:=by omega
  simp[Lib.compact,Lib.compactUpTo,Lib.keeps,vF,V,U]
 simp_all[dl,posI,srtI,Lib.compact,Lib.compactUpTo,Lib.keeps]
def zvQ(m:Mn){v:Int}(h:1<=v):0<=m.ab v/\m.ab v<v:=by
 unfold Mn.ab;cases e:(perfL m).find? λk=>decide (k<v)<;>grind[perfL]
def p23{m:Mn}{v:Int}(Z:ckM m=0):m.p v=2\/m.p v=3:=by
 have V:m.Ok:=by
  unfold ckM at Z;split at Z
  ·assumption
  ·omega
 obtain⟨a,b,c,d⟩:=V
 grind[two3,Mn.p]
theorem zkj{m:Mn}{v:Int}(Z:ckM m=0)(V:1<=v)(U:v<=8):ckMV m v=0:=by
 simp_all[ckM,ckMV]
def zna{m:Mn}{v:Int}(Z:1<=v):0<=m.aV v/\m.aV v<v:=by
 have:=zvQ m Z
 grind[Mn.aV]
def mngR(m:Mn)(s:Sg):List Int:=
 if s.Kind=2 then[m.aV s.Value]else if s.Color=true then[0]else if m.p s.Value=2/\m.aV s.Value=0 then[0]else if m.p s.Value=2 then[0,m.aV s.Value]else if m.aV s.Value=0 then[s.Value]else[m.aV s.Value,s.Value]
theorem zp1{m:Mn}{s:Sg}(Z:ckM m=0)(V:1<=s.Value)(U:s.Value<=8)(T:¬(s.Kind=2/\m.aV s.Value=0)):mngs m s=mngR m s:=by
 have Q:=zna (m:=m) V;have N:=p23 (m:=m) (v:=s.Value) Z
 grind[Mn.pV,zkj,mngs,mngR,zlZ,zp0]
theorem zhp{m:Mn}{s:Sg}(Z:ckM m=0)(V:1<=s.Value)(U:s.Value<=8):(mngs m s).length=0↔(s.Kind=2/\m.aV s.Value=0):=by
 grind[zp1,mngR,mngs,zlZ]
def sgR(m:Mn)(l:List Sg)(k:Nat)(s:Sg):Int:=
 if s.Kind=1\/s.Kind=2 then(if 1<=s.Value/\s.Value<=8 then 0 else 2)
 else if s.Kind=3 then(match k with|0=>13|j+1=>match l[j]? with|some p=>if p.Kind=3\/(p.Kind=2/\m.aV p.Value=0)then 13 else 0|none=>13)
 else 8
def zcL(m:Mn)(l:List Sg):Nat->List Sg->Int
 |_,[]=>0
 |k,s::r=>if sgR m l k s=0 then zcL m l (k+1) r else sgR m l k s
def ckR(m:Mn)(l:List Sg):Int:=if ckM m=0 then zcL m l 0 l else ckM m
theorem zd5{m:Mn}{l:List Sg}{k:Nat}{s:Sg}(h:l[k]? =some s)(h0:sgR m l k s=0):zcL m l k (l.drop k)=zcL m l (k+1) (l.drop (k+1)):=by
 grind[List.drop_eq_getElem_cons,zcL]
theorem zbr{m:Mn}{l:List Sg}{k:Nat}{s:Sg}(h:l[k]? =some s)(h0:sgR m l k s≠0):zcL m l k (l.drop k)=sgR m l k s:=by
 grind[List.drop_eq_getElem_cons,zcL]
theorem znY{m:Mn}{l:List Sg}{k:Nat}{s:Sg}(h0:sgF m l k s=0)(Z:s.Kind≠3):(s.Kind=1\/s.Kind=2)/\1<=s.Value/\s.Value<=8:=by
 simp_all[sgF];omega
def zx4{m:Mn}{l:List Sg}{k:Nat}{s:Sg}(T:ckM m=0)(hs:l[k]? =some s)(I:∀i s,i<k->l[i]? =some s->sgF m l i s=0):sgF m l k s=sgR m l k s:=by
 unfold sgF sgR;by_cases h:s.Kind=1\/s.Kind=2
 ·omega
 ·rw[j3 h,j3 h];by_cases Q:s.Kind=3
  ·rw[j4 Q,j4 Q];cases k with
   |zero=>rfl
   |succ j=>
    cases U:l[j]? with
    |none=>simp only[U]
    |some p=>
     simp only[U];by_cases Z:p.Kind=3
     ·rw[j4 (.inl Z),j4 (.inl Z)]
     ·obtain⟨_,N,J⟩:=znY (I j p (by omega) U) Z;by_cases V:(mngs m p).length=0
      ·rw[j4 (.inr V),j4 (.inr ((zhp T N J).1 V))]
      ·rw[j3 (λh=>h.elim Z V),j3 (λh=>h.elim Z (λh=>V ((zhp T N J).2 h)))]
  omega
def zl0{m:Mn}{l:List Sg}(U:ckM m=0):∀(n k:Nat),l.length-k=n->k<=l.length->(∀i s,i<k->l[i]? =some s->sgF m l i s=0)->zas m l k (l.drop k)=zcL m l k (l.drop k)
 |0,k,T,Q,V=>by
  rw[wB (by omega)];rfl
 |n+1,k,T,Q,V=>by
  have hs:l[k]? =some l[k]:=lgg (by omega);have he:=zx4 U hs V;by_cases h0:sgF m l k l[k]=0
  ·rw[zdO hs h0,zd5 hs (by rw[←he];exact h0)];refine zl0 U n (k+1) (by omega) (by omega) λi s hi Z=>?_
   rcases wA.1 hi with h|h
   ·exact V i s h Z
   ·subst h;rw[hs]at Z;injection Z with Z;subst Z;exact h0
  grind[zcc,zbr]
theorem znZ(m:Mn)(l:List Sg):ckD m l=ckR m l:=by
 unfold ckD ckR;by_cases Z:ckM m=0
 ·rw[j4 Z,j4 Z];have:=zl0 (l:=l) Z l.length 0 rfl (wH _) (λi s h=>absurd h (wU i));simpa using this
 omega
def zeI{m:Mn}{l:List Sg}(h:ckD m l=0):ckM m=0/\zas m l 0 l=0:=by
 grind[ckD]
theorem zkZ{m:Mn}{l:List Sg}(h:ckD m l=0){j:Nat}{s p:Sg}(hs:l[j+1]? =some s)(U:s.Kind=3)(T:l[j]? =some p):
 p.Kind≠3/\(p.Kind=1\/p.Kind=2)/\1<=p.Value/\p.Value<=8/\¬(p.Kind=2/\m.aV p.Value=0)/\mngs m p=mngR m p:=by
 obtain⟨Q,V⟩:=zeI h;have Z:=(zax V l.length (jE _)).2
 grind[sgF,znY,zhp,zp1]
def ziP{l:List Sg}:∀(k:Nat)(x:Int),x∈yU l k->∃(j:Nat)(s:Sg),x=(j:Int)/\l[j]? =some s/\s.Kind=3
 |0,x,hx=>by simp[yU]at hx
 |k+1,x,hx=>by
  simp only[yU,wP]at hx;rcases hx with hx|hx
  ·exact ziP k x hx
  grind
def zgE(m:Mn)(l:List Sg)(i:Int):List Int:=match zeG l i with|some p=>mngR m p|none=>[]
def mnsR(m:Mn)(l:List Sg):List (List Int):=(yU l l.length).map (zgE m l)
def zk0{m:Mn}{l:List Sg}(h:ckD m l=0){x:Int}(hx:x∈yU l l.length):∃(j:Nat)(s p:Sg),x=((j+1:Nat):Int)/\l[j+1]? =some s/\s.Kind=3/\l[j]? =some p/\zeG l x=some p:=by
 obtain⟨j,s,p,U,V,T⟩:=zfh (zeI h).2 l.length (jE _) x hx;obtain⟨j',s',N,Z,Q⟩:=ziP l.length x hx;have:j'=j+1:=by omega
 subst this;rw[V]at Z;injection Z with Z;subst Z;refine⟨j,s,p,U,V,Q,T,?_⟩;simp_all[zeG]
theorem zvR{m:Mn}{l:List Sg}(h:ckD m l=0):mnsD m l=mnsR m l:=by
 refine uX λx hx=>?_
 obtain⟨j,s,p,V,U,T,Q,Z⟩:=zk0 h hx;unfold mnAt zgE;rw[Z]
 grind[zkZ,mngR]
def ownV:List Int->Int->Int
 |[],_=>0
 |x::r,v=>if x=0\/x=v then x else ownV r v
def zbf(m:Mn)(l:List Sg)(i:Int)(p:Sg):Int:=
 if(mngR m p).length=1 then(mngR m p).headD 0 else if ziN l i>p.Value then ownV (mngR m p) p.Value else m.aV p.Value
def zcM(m:Mn)(l:List Sg)(i:Int):Int:=match zeG l i with|some p=>zbf m l i p|none=>0
def zp2(m:Mn)(l:List Sg):List Int:=(yU l l.length).map (zcM m l)
theorem zl1{m:Mn}{l:List Sg}{i:Int}{p:Sg}(Z:ckM m=0)(V:1<=p.Value)(U:p.Value<=8)(he:mngs m p=mngR m p):zbF m l i p=zbf m l i p:=by
 have T:=zna (m:=m) V;have Q:=p23 (m:=m) (v:=p.Value) Z
 grind[Mn.pV,zkj,zbF,zbf,mngR,ownV]
theorem zsi{m:Mn}{l:List Sg}(h:ckD m l=0):zh m l=zp2 m l:=by
 refine uX λx hx=>?_
 obtain⟨j,s,p,Q,Z,V,U,T⟩:=zk0 h hx;obtain⟨_,_,q1,q2,_,q3⟩:=zkZ h Z V U;unfold zdF zcM;rw[T];exact zl1 (zeI h).1 q1 q2 q3
end
end Go.Rse
