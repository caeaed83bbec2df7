/-
  Walks.
-/
import Derived.Test.YtbopkhoalndflaaGreatDoorYJDot1
set_option linter.all false
namespace Go.Rse
open Go Go.Proofs Go.Proofs.Tryz
section
attribute [local irreducible] Pur yA yC Ex X Fn Imp LeV LeB FnO It yH
def mkK(ch:List Int)(l:List Sg):Nat->List Int×List Bool×Nat
 |0=>([],[],0)
 |k+1=>match l[k]? with
  |some s=>if s.Kind=3 then((mkK ch l k).1.set (((mkK ch l k).1.length:Int)-1).toNat (ch.getD (mkK ch l k).2.2 0),(mkK ch l k).2.1.set (((mkK ch l k).2.1.length:Int)-1).toNat (decide (ch.getD (mkK ch l k).2.2 0=0)),(mkK ch l k).2.2+1)else((mkK ch l k).1++[0],(mkK ch l k).2.1++[false],(mkK ch l k).2.2)
  |none=>mkK ch l k
def zhQ{ch:List Int}{l:List Sg}{k:Nat}{s:Sg}(h:l[k]? =some s)(Z:s.Kind=3):mkK ch l (k+1)=((mkK ch l k).1.set (((mkK ch l k).1.length:Int)-1).toNat (ch.getD (mkK ch l k).2.2 0),(mkK ch l k).2.1.set (((mkK ch l k).2.1.length:Int)-1).toNat (decide (ch.getD (mkK ch l k).2.2 0=0)),(mkK ch l k).2.2+1):=by
 simp only[mkK,h,j3 Z]
def zgh{ch:List Int}{l:List Sg}{k:Nat}{s:Sg}(h:l[k]? =some s)(Z:¬s.Kind=3):mkK ch l (k+1)=((mkK ch l k).1++[0],(mkK ch l k).2.1++[false],(mkK ch l k).2.2):=by
 simp only[mkK,h,j4 Z]
theorem zhR(ch:List Int)(l:List Sg):∀k,(mkK ch l k).1.length=(mkK ch l k).2.1.length/\(mkK ch l k).1.length<=k/\(mkK ch l k).2.2=(yV l k).length
 |0=>⟨rfl,jD _,rfl⟩
 |k+1=>by
  obtain⟨V,T,U⟩:=zhR ch l k;cases hs:l[k]? with
  |none=>simp only[mkK,yV,hs,wC];exact⟨V,by omega,U⟩
  |some s=>
   by_cases Z:s.Kind=3
   ·rw[zhQ hs Z];simp[yV,hs,Z];omega
   ·rw[zgh hs Z];simp[yV,hs,Z];omega
def zfL(l:List Sg):∀(n k:Nat),k<=n->(yV l k).length<=(yV l n).length
 |0,k,h=>by have:k=0:=by omega
            subst this;exact jD _
 |n+1,k,h=>by
  rcases wA n k with Z|Z
  ·have:k=n+1:=by omega
   subst this;exact jD _
  ·have:=zfL l n k Z;simp only[yV,jE];omega
def zkn{m:Mn}{ch:List Int}{l:List Sg}(h:zan m l 0 l=0):∀k,1<=k->k<=l.length->1<=(mkK ch l k).1.length
 |0,U,_=>by omega
 |k+1,_,V=>by
  obtain⟨s,hs⟩:∃s,l[k]? =some s:=⟨_,lgg (by omega)⟩;by_cases Z:s.Kind=3
  ·rw[zhQ hs Z];simp only[List.length_set];rcases xX k with h0|h0
   ·subst h0;have:=(zar h 1 V).2 0 s (by omega) hs;unfold sgF at this;rw[j4 (by omega),j3 Z]at this;simp at this
   ·exact zkn h k h0 (by omega)
  ·rw[zgh hs Z];simp
def znn{m:Mn}{l:List Sg}(h:zan m l 0 l=0){k:Nat}{s:Sg}(hs:l[k]? =some s)(Z:s.Kind=3):1<=k:=by
 rcases xX k with h0|h0
 ·subst h0;have:=(zar h 1 (j1.1 hs).1).2 0 s (by omega) hs;unfold sgF at this;rw[j4 (by omega),j3 Z]at this;simp at this
 ·exact h0
def zif{m:Mn}{l:List Sg}(h:ckD m l=0):zan m l 0 l=0:=by
 unfold ckD at h;split at h
 ·exact h
 ·exact absurd h (by assumption)
def chOk(ch:List Int)(L:List (List Int)):Prop:=((L.zip ch).all λp=>decide (p.2∈p.1))=true
instance(ch:List Int)(L:List (List Int)):Decidable (chOk ch L):=inferInstanceAs(Decidable (_=true))
theorem zen{ch:List Int}{L:List (List Int)}:chOk ch L↔∀(i:Nat)x v,L[i]? =some x->ch[i]? =some v->v∈x:=by
 unfold chOk;rw[jB];constructor
 ·intro h i x v hx hv;have:=h (x,v) (jP.2 ⟨i,List.getElem?_zip_eq_some.2 ⟨hx,hv⟩⟩);simpa using this
 ·rintro h⟨x,v⟩Z
  obtain⟨i,hi⟩:=jP.1 Z;obtain⟨V,U⟩:=List.getElem?_zip_eq_some.1 hi;simpa using h i x v V U
def mkE(m:Mn)(l:List Sg)(ch:List Int):Int:=if ckD m l=0 then(if(mnsD m l).length=ch.length/\chOk ch (mnsD m l)then 0 else 2)else ckD m l
def mkC(m:Mn)(l:List Sg)(ch:List Int):List Int:=if mkE m l ch=0 then(mkK ch l l.length).1 else[]
def mkA(m:Mn)(l:List Sg)(ch:List Int):List Bool:=if mkE m l ch=0 then(mkK ch l l.length).2.1 else[]
def ds9:List (List Bool):=[0,1,2,8,16,3,9,17,10,18,24,7,11,19,25,26,15,23,27,31,63,127,255].map λn=>(List.range 8).map λi=>n.testBit i
def st9(ch:List Int)(l:List Sg)(k:Nat)(D:List Bool):St:=
 let b:=λi=>D.getD i false
 ⟨[(2,yc ch),(13,.ptr 13 0 0 0),(14,.ptr 14 0 0 0),(15,.fn 251 [.ptr 13 0 0 0,.ptr 14 0 0 0]),(16,iv ((mkK ch l k).2.2:Int)),(49,sgsA l),(50,iv l.length),(51,iv (k:Int))]++cond (b 0&&!b 2) [(66,.own 101)] []++cond (b 1&&!b 2) [(67,.own 67)] []++cond (b 2&&!b 6) [(68,.own 101)] []++cond (b 3&&!b 5) [(69,.own 102)] []++cond (b 4&&!b 5) [(70,.own 70)] []++cond (b 5&&!b 7) [(71,.own 102)] [],
  cond (b 1&&!b 2) [(67,.row intE [0] 3 1)] []++cond (b 4&&!b 5) [(70,.row za7 [false] 4 1)] []++[(13,.box [cond (b 2&&!b 6) .any (.own 101)] 46),(14,.box [cond (b 5&&!b 7) .any (.own 102)] 107),(101,.row intE (cond (b 2) ((mkK ch l k).1++[0]) (mkK ch l k).1) 3 1),(102,.row za7 (cond (b 5) ((mkK ch l k).2.1++[false]) (mkK ch l k).2.1) 4 1)]⟩
set_option maxHeartbeats 4000000 in
set_option maxRecDepth 100000 in
def zlw(m:Mn)(l:List Sg)(hl:l.length<=1000)(ch:List Int):Fn prog 188 [mnA m,sgsA l,yc ch] (.tup [yc (mkC m l ch),zaP (mkA m l ch),iv (mkE m l ch)]):=by
 obtain⟨L0,hX,hM⟩:∃L0,(ckD m l=0->L0=mnsD m l)/\Fn prog 246 [mnA m,sgsA l] (.tup [zc6 L0,iv (ckD m l)]):=⟨_,λh=>j3 h,C_dot_Meanings m l hl⟩;refine kF func188 ntmps188 (λg w d=>?_);refine gc hM ?_;refine gd ?_ ?_<;>intro Z
 ·have hE:mkE m l ch=ckD m l:=by unfold mkE;rw[j4 Z]
  have U:mkC m l ch=[]:=by unfold mkC;rw[j4 (by rw[hE];exact Z)]
  have T:mkA m l ch=[]:=by unfold mkA;rw[j4 (by rw[hE];exact Z)]
  apply ye;refine ya ?_;refine yE ?_;refine kE ?_;refine kA (yd (ts:=[(6,yc []),(7,zaP []),(8,iv (ckD m l))]) (hs:=[])) ?_;refine kL (.many (by decide) (.cons (.tmp rfl (kC ?_)) (.cons (.tmp rfl (kC ?_)) (.cons (.tmp rfl (kC ?_)) .nil))));all_goals(first|exact zE U|exact zE T|exact zE hE)
 have xT:=hX Z;subst xT;have v5:=zgg m l;have J:=zif Z;have v4:(mnsD m l).length=(yV l l.length).length:=by simp[mnsD]
 refine gd ?_ ?_<;>intro v3
 ·have hE:mkE m l ch=2:=by unfold mkE;rw[j3 Z,j4 (λh=>by have:=h.1;omega)]
  have U:mkC m l ch=[]:=by unfold mkC;rw[j4 (by omega)]
  have T:mkA m l ch=[]:=by unfold mkA;rw[j4 (by omega)]
  apply ye;refine yE ?_;refine kE ?_;refine kA (yd (ts:=[(6,yc []),(7,zaP []),(8,iv 2)]) (hs:=[])) ?_;refine kL (.many (by decide) (.cons (.tmp rfl (kC ?_)) (.cons (.tmp rfl (kC ?_)) (.cons (.tmp rfl (kC ?_)) .nil))));all_goals(first|exact zE U|exact zE T|exact zE hE)
 apply yk;apply yf;apply ye;refine yE ?_;apply kB;refine zM (λk=>[(1,sgsA l),(2,yc ch),(9,zc6 (mnsD m l)),(33,zc6 (mnsD m l)),(34,iv (mnsD m l).length),(35,iv (k:Int))]) (λk=>[]) (λk=>k<=(mnsD m l).length/\∀i,i<k->∀x v,(mnsD m l)[i]? =some x->ch[i]? =some v->v∈x) ((mnsD m l).length) (λk hk=>?_) (hJ:=by exact⟨by omega,λi h=>absurd h (wT i)⟩) (h0:=yd);obtain⟨v0,I⟩:=hk;refine gd ?_ ?_<;>intro u4
 ·obtain⟨x,hx⟩:∃x,(mnsD m l)[k]? =some x:=⟨_,lgg (by omega)⟩;have u3:(mnsD m l)[(k:Int).toNat]? =some x:=by simpa using hx
  obtain⟨c,Q⟩:∃c,ch[k]? =some c:=⟨_,lgg (by omega)⟩;have v9:ch[(k:Int).toNat]? =some c:=by simpa using Q
  have u2:=zjF (j6 hx);refine gc (yU x c (by omega)) ?_;refine gd ?_ ?_<;>intro H
  ·have hE:mkE m l ch=2:=by unfold mkE;rw[j3 Z,j4 (λh=>H (zen.1 h.2 k x c hx Q))]
   have U:mkC m l ch=[]:=by unfold mkC;rw[j4 (by omega)]
   have T:mkA m l ch=[]:=by unfold mkA;rw[j4 (by omega)]
   apply ye;refine yE ?_;refine kE ?_;refine kA (yd (ts:=[(6,yc []),(7,zaP []),(8,iv 2)]) (hs:=[])) ?_;refine kL (.many (by decide) (.cons (.tmp rfl (kC ?_)) (.cons (.tmp rfl (kC ?_)) (.cons (.tmp rfl (kC ?_)) .nil))));all_goals(first|exact zE U|exact zE T|exact zE hE)
  refine gq ?_
  refine yz (k+1) (hJ:=by
   refine⟨by omega,λi hi x1 v1 G E=>?_⟩;rcases w6.1 hi with h|h
   ·exact I i h x1 v1 G E
   ·subst h;rw[hx]at G;rw[Q]at E;injection G with G;injection E with E;subst G;subst E;exact H)
 ·have hok:chOk ch (mnsD m l):=zen.2 λi x v hx hv=>I i (by have:=(j1.1 hx).1;omega) x v hx hv
  have hE:mkE m l ch=0:=by unfold mkE;rw[j3 Z,j3 ⟨by omega,hok⟩]
  have U:mkC m l ch=(mkK ch l l.length).1:=by unfold mkC;rw[j3 hE]
  have T:mkA m l ch=(mkK ch l l.length).2.1:=by unfold mkA;rw[j3 hE]
  apply kO;apply ye;refine zk ?_;apply yG;refine zk ?_;apply kQ;apply yf;refine kJ (zb0 intE 3 1 13 101 46 rfl rfl) ?_;refine kJ (zb0 za7 4 1 14 102 107 rfl rfl) ?_;apply yj;iterate 2 refine ya ?_
  apply yG;refine yh ?_;apply yf;apply ye;refine yE ?_;apply kB;refine zu (λk=>[(2,yc ch),(13,.ptr 13 0 0 0),(14,.ptr 14 0 0 0),(15,.fn 251 [.ptr 13 0 0 0,.ptr 14 0 0 0]),(16,iv ((mkK ch l k).2.2:Int)),(49,sgsA l),(50,iv l.length),(51,iv (k:Int))]) (λk=>[(13,.box [.own 101] 46),(14,.box [.own 102] 107),(101,.row intE (mkK ch l k).1 3 1),(102,.row za7 (mkK ch l k).2.1 4 1)]) l.length (λk hk=>?_) (h0:=yd);refine gd ?_ ?_<;>intro u1
  ·obtain⟨s,hs⟩:∃s,l[k]? =some s:=⟨_,lgg (by omega)⟩;have k5:l[(k:Int).toNat]? =some s:=by simpa using hs
   obtain⟨k4,k3,j2⟩:=zhR ch l k;refine gd ?_ ?_<;>intro V
   ·have N:=zhQ (ch:=ch) hs V;have j0:=zfL l l.length (k+1) (by omega);have hZ:(yV l (k+1)).length=(yV l k).length+1:=by simp[yV,hs,V]
    have x4:=znn J hs V;have v8:=zkn (ch:=ch) J k x4 (by omega);have hY:ch[((mkK ch l k).2.2:Int).toNat]? =some (ch.getD (mkK ch l k).2.2 0):=by rw[wG,j8,lgg (by omega)];rfl
    have x3:(mkK ch l k).1.set (((mkK ch l k).1.length:Int)-1).toNat (ch.getD (mkK ch l k).2.2 0)=(mkK ch l (k+1)).1:=by rw[N]
    have x2:(mkK ch l k).2.1.set (((mkK ch l k).2.1.length:Int)-1).toNat (decide (ch.getD (mkK ch l k).2.2 0=0))=(mkK ch l (k+1)).2.1:=by rw[N]
    have x0:((mkK ch l k).2.2:Int)+1=((mkK ch l (k+1)).2.2:Int):=by rw[N];simp
    apply ye;(iterate 5 refine ya ?_);refine zbt [(2000000,13),(2000001,14),(2000002,101),(2000003,102)] (zjo (ch.getD (mkK ch l k).2.2 0) (mkK ch l k).1 (mkK ch l k).2.1 (by omega) (by omega) (by omega) (by omega)) rfl rfl rfl (kS _) rfl rfl ⟨⟨_,_,rfl,rfl,kR _,rfl⟩,⟨_,_,rfl,rfl,kR _,rfl⟩,⟨_,_,rfl,rfl,kR _,rfl⟩,⟨_,_,rfl,rfl,kR _,rfl⟩,trivial⟩ rfl rfl rfl rfl ?_;refine gq ?_;refine yz (k+1)
   have N:=zgh (ch:=ch) hs V;have x3:(mkK ch l k).1++[0]=(mkK ch l (k+1)).1:=by rw[N]
   have x2:(mkK ch l k).2.1++[false]=(mkK ch l (k+1)).2.1:=by rw[N]
   have x0:((mkK ch l k).2.2:Int)=((mkK ch l (k+1)).2.2:Int):=by rw[N]
   apply yk;refine zrk (ds9.map (st9 ch l k)) ds9 [(0,0,1),(0,1,2),(0,3,3),(0,4,4),(1,1,5),(1,3,6),(1,4,7),(2,0,5),(2,3,8),(2,4,9),(3,0,6),(3,1,8),(3,4,10),(4,0,7),(4,1,9),(4,3,10),(5,2,11),(5,3,12),(5,4,13),(6,1,12),(6,4,14),(7,1,13),(7,3,14),(8,0,12),(8,4,15),(9,0,13),(9,3,15),(10,0,14),(10,1,15),(11,3,16),(11,4,17),(12,2,16),(12,4,18),(13,2,17),(13,3,18),(14,1,18),(15,0,18),(16,4,19),(17,3,19),(18,2,19),(19,5,20),(20,6,21),(21,7,22)] 22 mo rfl rfl yd (by kernel_rfl) rfl (by kernel_rfl) rfl ?_ ?_
   ·repeat'(first|exact True.intro|refine⟨⟨_,_,rfl,rfl,yo rfl (yC.imp (yK (k8 (zai rfl rfl rfl ty46)) rfl rfl) yd)⟩,?_⟩|refine⟨⟨_,_,rfl,rfl,yo rfl (yC.imp (yK (zD (k:=67) (enc:=intE) (l:=[0]) sl46 ty3 ze3 (by decide) rfl rfl rfl rfl (by decide) (by decide) (λ_=>rfl) rfl) rfl rfl) yd)⟩,?_⟩|refine⟨⟨_,_,rfl,rfl,yo rfl (yC.imp (yK (k8 (zai rfl rfl rfl zdb)) rfl rfl) yd)⟩,?_⟩|refine⟨⟨_,_,rfl,rfl,yo rfl (yC.imp (yK (zD (k:=70) (enc:=za7) (l:=[false]) zeZ ty4 ze4 (by decide) rfl rfl rfl rfl (by decide) (by decide) (λ_=>rfl) rfl) rfl rfl) yd)⟩,?_⟩|refine⟨⟨_,_,rfl,rfl,yo rfl (yC.imp (zd2 (enc:=intE) (l:=(mkK ch l k).1) (l2:=[0]) rfl rfl rfl rfl sl46 ti3 (by decide) (by decide) (λ_=>rfl) (λ_=>rfl) (by simp;omega) rfl) yd)⟩,?_⟩|refine⟨⟨_,_,rfl,rfl,yo rfl (yC.imp (zd2 (enc:=za7) (l:=(mkK ch l k).2.1) (l2:=[false]) rfl rfl rfl rfl zeZ ti4 (by decide) (by decide) (λ_=>rfl) (λ_=>rfl) (by simp;omega) rfl) yd)⟩,?_⟩|refine⟨⟨_,_,rfl,rfl,yo rfl (yC.imp (z6 rfl rfl rfl rfl ty46 (ltB rfl)) yd)⟩,?_⟩|refine⟨⟨_,_,rfl,rfl,yo rfl (yC.imp (z6 rfl rfl rfl rfl zdb (ltB rfl)) yd)⟩,?_⟩)
   refine gq ?_;refine yz (k+1)
  ·have w2:k=l.length:=by omega
   subst w2;refine gq ?_;refine yW [6,7,8,73,74] [0,0,1,7,15] mo ?_;(iterate 5 refine yb ?_);refine yF ?_;apply kQ;refine kE ?_;refine kA ((k9 (k:=101) rfl).trans (k9 (k:=102) rfl)) ?_;refine kL (.many (by decide) (.cons (.tmp rfl (kC ?_)) (.cons (.tmp rfl (kC ?_)) (.cons (.tmp rfl (kC ?_)) .nil))));all_goals(first|exact zE U|exact zE T|exact zE hE)
end
section
attribute [local irreducible] Pur yA yC Ex X Fn Imp LeV LeB FnO It yH
def zpm(o:Option Sg):frB o=!(o.isSome&&clr (znv o)):=by cases o<;>simp[frB,znv]
def zlx{l:List Sg}{i:Int}(h:(((((l.length:Int)<=i+1\/clr (l.getD i.toNat default)=false)\/¬(l.getD i.toNat default).Value=4)\/clr (l.getD (i+1).toNat default)=false)\/¬(l.getD (i+1).toNat default).Value=5)):zaB l i=false:=by
 unfold zaB;rcases h with(((h|h)|h)|h)|h
 ·rw[jC (show¬i+1<(l.length:Int)by omega)];simp
 ·rw[h];simp
 ·rw[jC h];simp
 ·rw[h];simp
 ·rw[jC h];simp
def zoO{l:List Sg}{i:Int}(h:i+2<(l.length:Int)/\(l.getD (i+2).toNat default).Kind=3):zaB l i=false:=by
 unfold zaB;rw[jJ h.1,jJ h.2];simp
def zjG{l:List Sg}{i:Int}(h:(((i+1<(l.length:Int)/\clr (l.getD i.toNat default)=true)/\(l.getD i.toNat default).Value=4)/\clr (l.getD (i+1).toNat default)=true)/\(l.getD (i+1).toNat default).Value=5):zaB l i=(!(decide (i+2<(l.length:Int))&&decide ((l.getD (i+2).toNat default).Kind=3))&&frB (zde l (-1) (i-1))&&frB (zde l 1 (i+2))):=by
 unfold zaB;rw[jJ h.1.1.1.1,h.1.1.1.2,jJ h.1.1.2,h.1.2,jJ h.2];rfl
attribute [local irreducible] zaB zde frB znv clr
def zgi(l:List Sg)(hl:l.length<=4000000000)(i:Int)(h0:0<=i)(V:i<(l.length:Int)):Fn prog 326 [sgsA l,iv i] (.bool (zaB l i)):=by
 refine kF func326 ntmps326 (λg w d=>?_);apply ye;refine yh ?_;apply yf;apply ye;iterate 5 refine ya ?_
 refine kI 5 ?_;refine gq ?_;refine bA (zba _) ?_;refine gq ?_;refine bA (zba _) ?_;refine kG ?_;iterate 2 refine yp ?_
 iterate 7 refine kG ?_
 refine gf ?_ ?_<;>intro Z
 ·refine gq ?_;all_goals(rw[zlx Z])
 apply yk;apply ye;iterate 5 refine ya ?_
 refine kI 5 ?_;refine yp ?_;iterate 7 refine kG ?_
 refine zdK ?_;iterate 2 refine ya ?_
 apply yG;iterate 2 refine ya ?_
 refine kI 2 ?_;refine gq ?_;refine bA (zgl l hl (i-1) (-1) (.inr rfl) (by omega) (by omega) (by omega)) ?_;refine gq ?_;refine bA (zgl l hl (i+2) 1 (.inl rfl) (by omega) (by omega) (by omega)) ?_;refine ge ?_;all_goals(rw[zjG Z])
def zfM(m:Mn)(l:List Sg)(hl:l.length<=4000000000)(i:Int)(h0:0<=i)(Q:i<(l.length:Int)):Fn prog 319 [mnA m,sgsA l,iv i] (.bool (decide (m.p 4=2)&&zaB l i)):=by
 refine kF func319 ntmps319 (λg w d=>?_);apply ye;refine zH ?_;refine yh ?_;apply yf;apply ye;iterate 5 refine ya ?_
 refine kI 5 ?_;refine gq ?_;refine bA (zA _) ?_;refine gq ?_;refine bA (zA _) ?_;refine gq ?_;refine bA (yX m 4) ?_;refine kG ?_;refine gf ?_ ?_<;>intro Z
 ·have V:(decide (m.p 4=2)&&zaB l i)=false:=by
   rcases Z with h|h
   ·rw[zlx h];simp
   ·rw[jC h];rfl
  refine gq ?_;all_goals rw[V]
 apply yk;apply yf;apply ye;iterate 5 refine ya ?_
 refine kI 5 ?_;refine yp ?_;iterate 7 refine kG ?_
 refine gf ?_ ?_<;>intro U
 ·have V:=zoO U;refine gq ?_;all_goals(rw[V];simp)
 have V:=zjG Z.1
 have T:(decide (i+2<(l.length:Int))&&decide ((l.getD (i+2).toNat default).Kind=3))=false:=by
  rcases U with h|h
  ·rw[jC (show¬i+2<(l.length:Int)by omega)];rfl
  ·rw[jC h];simp
 rw[T,zpm,zpm]at V;refine gc (zcD l hl (i-1) (-1) (.inr rfl) (by omega) (by omega) (by omega)) ?_;refine yP (zcD l hl (i+2) 1 (.inl rfl) (by omega) (by omega) (by omega)) ?_;iterate 3 refine ya ?_
 refine zk ?_;refine kK ?_;refine ya ?_;apply yG;refine ya ?_;refine kI 1 ?_;refine gq ?_;refine bA (zA _) ?_;refine gq ?_;refine bA (zA _) ?_;iterate 2 refine kG ?_
 refine ge ?_;all_goals(rw[V,jJ Z.2];rfl)
end
section
theorem zly(a:Int):coll posI [a]=if 0<a then[a]else[]:=by
 unfold coll dl posI srtI;by_cases h:0<a
 ·simp only[h,if_true,u5,decide_true,xK,Bool.not_false,List.filter_nil,List.mergeSort_singleton];rfl
 ·simp only[h,if_false,u5,decide_false,xK,Bool.not_false,List.filter_nil,List.mergeSort_nil];simp[Lib.compact,Lib.compactUpTo]
def srt2{a v:Int}(h:a<v):srtI [v,a]=[a,v]:=by
 simp_all[srtI,List.mergeSort]
theorem zpn{v a:Int}(hv:0<v)(Z:a<v):coll posI [v,a]=if 0<a then[a,v]else[v]:=by
 unfold coll;by_cases h:0<a
 ·have e:dl (λv=>!posI v) [v,a]=[v,a]:=by simp[dl,posI,h,hv]
  rw[e,srt2 Z,j3 h];have V:¬v=a:=by omega
  have U:¬a=v:=by omega
  simp[Lib.compact,Lib.compactUpTo,Lib.keeps,List.range_succ,V,U]
 simp_all[dl,posI,srtI,Lib.compact,Lib.compactUpTo,Lib.keeps]
def zvq(m:Mn){v:Int}(h:1<=v):0<=m.ab v/\m.ab v<v:=by
 unfold Mn.ab;cases e:(perfL m).find? λk=>decide (k<v)<;>grind[perfL]
def p23{m:Mn}{v:Int}(Z:ckM m=0):m.p v=2\/m.p v=3:=by
 have V:m.Ok:=by
  unfold ckM at Z;split at Z
  ·assumption
  ·omega
 obtain⟨a,b,c,d⟩:=V
 grind[two3,Mn.p]
theorem zjH{m:Mn}{v:Int}(Z:ckM m=0)(V:1<=v)(U:v<=8):ckMV m v=0:=by
 simp_all[ckM,ckMV]
def zmD{m:Mn}{v:Int}(Z:1<=v):0<=m.aV v/\m.aV v<v:=by
 have:=zvq m Z
 grind[Mn.aV]
def mngR(m:Mn)(s:Sg):List Int:=
 if s.Kind=2 then[m.aV s.Value]else if s.Color=true then[0]else if m.p s.Value=2/\m.aV s.Value=0 then[0]else if m.p s.Value=2 then[0,m.aV s.Value]else if m.aV s.Value=0 then[s.Value]else[m.aV s.Value,s.Value]
theorem zpo{m:Mn}{s:Sg}(Z:ckM m=0)(V:1<=s.Value)(U:s.Value<=8)(T:¬(s.Kind=2/\m.aV s.Value=0)):mngs m s=mngR m s:=by
 have Q:=zmD (m:=m) V;have N:=p23 (m:=m) (v:=s.Value) Z
 grind[Mn.pV,zjH,mngs,mngR,zly,zpn]
theorem zg0{m:Mn}{s:Sg}(Z:ckM m=0)(V:1<=s.Value)(U:s.Value<=8):(mngs m s).length=0↔(s.Kind=2/\m.aV s.Value=0):=by
 grind[zpo,mngR,mngs,zly]
def sgR(m:Mn)(l:List Sg)(k:Nat)(s:Sg):Int:=
 if s.Kind=1\/s.Kind=2 then(if 1<=s.Value/\s.Value<=8 then 0 else 2)
 else if s.Kind=3 then(match k with|0=>13|j+1=>match l[j]? with|some p=>if p.Kind=3\/(p.Kind=2/\m.aV p.Value=0)then 13 else 0|none=>13)
 else 8
def zco(m:Mn)(l:List Sg):Nat->List Sg->Int
 |_,[]=>0
 |k,s::r=>if sgR m l k s=0 then zco m l (k+1) r else sgR m l k s
def ckR(m:Mn)(l:List Sg):Int:=if ckM m=0 then zco m l 0 l else ckM m
theorem zdM{m:Mn}{l:List Sg}{k:Nat}{s:Sg}(h:l[k]? =some s)(h0:sgR m l k s=0):zco m l k (l.drop k)=zco m l (k+1) (l.drop (k+1)):=by
 grind[List.drop_eq_getElem_cons,zco]
theorem zbl{m:Mn}{l:List Sg}{k:Nat}{s:Sg}(h:l[k]? =some s)(h0:sgR m l k s≠0):zco m l k (l.drop k)=sgR m l k s:=by
 grind[List.drop_eq_getElem_cons,zco]
theorem zno{m:Mn}{l:List Sg}{k:Nat}{s:Sg}(h0:sgF m l k s=0)(Z:s.Kind≠3):(s.Kind=1\/s.Kind=2)/\1<=s.Value/\s.Value<=8:=by
 simp_all[sgF];omega
def zxs{m:Mn}{l:List Sg}{k:Nat}{s:Sg}(T:ckM m=0)(hs:l[k]? =some s)(I:∀i s,i<k->l[i]? =some s->sgF m l i s=0):sgF m l k s=sgR m l k s:=by
 unfold sgF sgR;by_cases h:s.Kind=1\/s.Kind=2
 ·omega
 ·rw[j4 h,j4 h];by_cases Q:s.Kind=3
  ·rw[j3 Q,j3 Q];cases k with
   |zero=>rfl
   |succ j=>
    cases U:l[j]? with
    |none=>simp only[U]
    |some p=>
     simp only[U];by_cases Z:p.Kind=3
     ·rw[j3 (.inl Z),j3 (.inl Z)]
     ·obtain⟨_,N,J⟩:=zno (I j p (by omega) U) Z;by_cases V:(mngs m p).length=0
      ·rw[j3 (.inr V),j3 (.inr ((zg0 T N J).1 V))]
      ·rw[j4 (λh=>h.elim Z V),j4 (λh=>h.elim Z (λh=>V ((zg0 T N J).2 h)))]
  omega
def zlz{m:Mn}{l:List Sg}(U:ckM m=0):∀(n k:Nat),l.length-k=n->k<=l.length->(∀i s,i<k->l[i]? =some s->sgF m l i s=0)->zan m l k (l.drop k)=zco m l k (l.drop k)
 |0,k,T,Q,V=>by
  rw[w8 (by omega)];rfl
 |n+1,k,T,Q,V=>by
  have hs:l[k]? =some l[k]:=lgg (by omega);have he:=zxs U hs V;by_cases h0:sgF m l k l[k]=0
  ·rw[zdt hs h0,zdM hs (by rw[←he];exact h0)];refine zlz U n (k+1) (by omega) (by omega) λi s hi Z=>?_
   rcases w6.1 hi with h|h
   ·exact V i s h Z
   ·subst h;rw[hs]at Z;injection Z with Z;subst Z;exact h0
  grind[zbS,zbl]
theorem znp(m:Mn)(l:List Sg):ckD m l=ckR m l:=by
 unfold ckD ckR;by_cases Z:ckM m=0
 ·rw[j3 Z,j3 Z];have:=zlz (l:=l) Z l.length 0 rfl (w7 _) (λi s h=>absurd h (wT i));simpa using this
 omega
def zeo{m:Mn}{l:List Sg}(h:ckD m l=0):ckM m=0/\zan m l 0 l=0:=by
 grind[ckD]
theorem zko{m:Mn}{l:List Sg}(h:ckD m l=0){j:Nat}{s p:Sg}(hs:l[j+1]? =some s)(U:s.Kind=3)(T:l[j]? =some p):
 p.Kind≠3/\(p.Kind=1\/p.Kind=2)/\1<=p.Value/\p.Value<=8/\¬(p.Kind=2/\m.aV p.Value=0)/\mngs m p=mngR m p:=by
 obtain⟨Q,V⟩:=zeo h;have Z:=(zar V l.length (jD _)).2
 grind[sgF,zno,zg0,zpo]
def zig{l:List Sg}:∀(k:Nat)(x:Int),x∈yV l k->∃(j:Nat)(s:Sg),x=(j:Int)/\l[j]? =some s/\s.Kind=3
 |0,x,hx=>by simp[yV]at hx
 |k+1,x,hx=>by
  simp only[yV,wN]at hx;rcases hx with hx|hx
  ·exact zig k x hx
  grind
def zgj(m:Mn)(l:List Sg)(i:Int):List Int:=match zem l i with|some p=>mngR m p|none=>[]
def mnsR(m:Mn)(l:List Sg):List (List Int):=(yV l l.length).map (zgj m l)
def zkp{m:Mn}{l:List Sg}(h:ckD m l=0){x:Int}(hx:x∈yV l l.length):∃(j:Nat)(s p:Sg),x=((j+1:Nat):Int)/\l[j+1]? =some s/\s.Kind=3/\l[j]? =some p/\zem l x=some p:=by
 obtain⟨j,s,p,U,V,T⟩:=ze0 (zeo h).2 l.length (jD _) x hx;obtain⟨j',s',N,Z,Q⟩:=zig l.length x hx;have:j'=j+1:=by omega
 subst this;rw[V]at Z;injection Z with Z;subst Z;refine⟨j,s,p,U,V,Q,T,?_⟩;simp_all[zem]
theorem zvr{m:Mn}{l:List Sg}(h:ckD m l=0):mnsD m l=mnsR m l:=by
 refine vE λx hx=>?_
 obtain⟨j,s,p,V,U,T,Q,Z⟩:=zkp h hx;unfold mnAt zgj;rw[Z]
 grind[zko,mngR]
def ownV:List Int->Int->Int
 |[],_=>0
 |x::r,v=>if x=0\/x=v then x else ownV r v
def za9(m:Mn)(l:List Sg)(i:Int)(p:Sg):Int:=
 if(mngR m p).length=1 then(mngR m p).headD 0 else if zie l i>p.Value then ownV (mngR m p) p.Value else m.aV p.Value
def zcp(m:Mn)(l:List Sg)(i:Int):Int:=match zem l i with|some p=>za9 m l i p|none=>0
def zpp(m:Mn)(l:List Sg):List Int:=(yV l l.length).map (zcp m l)
theorem zlA{m:Mn}{l:List Sg}{i:Int}{p:Sg}(Z:ckM m=0)(V:1<=p.Value)(U:p.Value<=8)(he:mngs m p=mngR m p):zbw m l i p=za9 m l i p:=by
 have T:=zmD (m:=m) V;have Q:=p23 (m:=m) (v:=p.Value) Z
 grind[Mn.pV,zjH,zbw,za9,mngR,ownV]
theorem zrK{m:Mn}{l:List Sg}(h:ckD m l=0):zl m l=zpp m l:=by
 refine vE λx hx=>?_
 obtain⟨j,s,p,Q,Z,V,U,T⟩:=zkp h hx;obtain⟨_,_,q1,q2,_,q3⟩:=zko h Z V U;unfold zdl zcp;rw[T];exact zlA (zeo h).1 q1 q2 q3
end
end Go.Rse
