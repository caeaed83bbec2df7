/-
  Walks.
-/
import Derived.Test.YtbopkhoalndflaaGreatDoorYJLvl13
set_option linter.all false
namespace Go.Rse
open Go Go.Proofs Go.Proofs.Tryz
attribute [local irreducible] Pur yA yC Ex X Fn Imp LeV LeB FnO It yH FnW FnOW
def zlt{l:List Ite}{i:Int}(h0:0<=i)(h:i<l.length):l[i.toNat]? =some (itg l i):=by
 unfold itg;rw[j8,lgg (by omega)];rfl
def ztm{l:List Ite}{s:Sgm}{e:Int}{u:Tm}(h:cnA l s=(tmZ,e))(h0:¬e=0):cnE u l s=e/\cnV u l s=tmZ:=by
 have:=zp0 (u:=u) (l:=l) (s:=s) (by rw[h];exact h0);rw[h]at this;exact this
def zxb{l:List Ite}{s:Sgm}{A:Tm}(h:cnA l s=(A,0)):cnB l s=cn1 A s.Left (itg l s.Left).After:=by unfold cnB;rw[h,j3 rfl]
def zry{l:List Ite}{s:Sgm}{B:Tm}(h:cnB l s=(B,0)):cnC l s=cn1 B s.Right (itg l s.Right).Before:=by unfold cnC;rw[h,j3 rfl]
def ztn{l:List Ite}{s:Sgm}{e:Int}(h:cnB l s=(tmZ,e))(h0:¬e=0):cnC l s=(tmZ,e):=by unfold cnC;rw[h,j4 h0]
def zrz{t d:Tm}{h:Int}(Z:h<0):cn1 t h d=(t,0):=by unfold cn1;rw[j3 Z]
def zrA{t d:Tm}{h:Int}(Z:0<=h)(he:lsE t d=0):cn1 t h d=(if lsE t d=0 then subV t d else tmZ,0):=by unfold cn1;rw[j4 (by omega),j3 he,j3 he]
def zrB{t d:Tm}{h:Int}(Z:0<=h)(he:¬lsE t d=0):cn1 t h d=(tmZ,lsE t d):=by unfold cn1;rw[j4 (by omega),j4 he]
def zoJ{u:Tm}{l:List Ite}{s:Sgm}{t:Tm}(h:cnC l s=(t,0)):cnE u l s=divE t u/\cnV u l s=divV t u:=by
 have:=zp2 (u:=u) (l:=l) (s:=s) (by rw[h]);rw[h]at this;exact this
def zrC{u:Tm}{l:List Ite}{s:Sgm}{e:Int}(h:cnC l s=(tmZ,e))(h0:¬e=0):cnE u l s=e/\cnV u l s=tmZ:=by
 have:=zp1 (u:=u) (l:=l) (s:=s) (by rw[h];exact h0);rw[h]at this;exact this
def sgM(u:Tm)(l:List Ite)(L:List Sgm)(n:Nat):List Sgm:=(L.take n).map (segW u l)
def zzx(u:Tm)(l:List Ite)(L:List Sgm):[]=sgM u l L 0:=by unfold sgM;rw[vR];rfl
def zzy{u:Tm}{l:List Ite}{L:List Sgm}{n:Nat}{s:Sgm}(h:L[n]? =some s):sgM u l L n++[segW u l s]=sgM u l L (n+1):=by
 unfold sgM;rw[jF,h,xO];rfl
def zto(u:Tm)(l:List Ite)(L:List Sgm)(n:Nat):(sgM u l L n).length<=n:=by unfold sgM;rw[jX,jM];omega
def ztp(u:Tm)(l:List Ite)(L:List Sgm):sgM u l L L.length=L.map (segW u l):=by unfold sgM;rw[jH]
def zoK(k:Int)(l:List Ite)(n:Nat):(bdsT k l)[n]? =(bds k l)[n]?.map bdT:=by unfold bdsT;rw[jO]
def zzz(k:Int)(l:List Ite):1<=(bds k l).length/\(bds k l).length<=2*l.length+2:=by
 have:=ze2 k l l.length;rw[ze5];omega
def zvd{k:Int}{l:List Ite}{n:Nat}{b:Bd}(h:(bds k l)[n]? =some b):b.item<l.length:=by
 have:=(zmO k l).1 b (j6 h);have hi:=this.hi;rcases this.it with h|h<;>omega
def zlu{k:Int}{l:List Ite}:∀n,∀b∈bdK k l n,b.fin=false
 |0,b,h=>by simp[bdK]at h;subst h;rfl
 |n+1,b,h=>by
  cases hx:l[n]? with
  |none=>
   have e:bdK k l (n+1)=bdK k l n:=by
    conv=>lhs;unfold bdK
    rw[hx]
   rw[e]at h;exact zlu n b h
  |some x=>
   rw[zdv hx]at h;rcases wN.1 h with h|h
   ·rcases wN.1 h with h|h
    ·exact zlu n b h
    ·split at h
     ·simp at h;subst h;rfl
     ·simp at h
   ·split at h
    ·simp at h;subst h;rfl
    ·simp at h
def ztq{k:Int}{l:List Ite}{n:Nat}{c:Bd}(h:(bds k l)[n+1]? =some c)(U:n+1<(bds k l).length):c.fin=decide ((n:Int)+2=((bds k l).length:Int)):=by
 have hl:=ze5 k l;by_cases V:n+1<(bdK k l l.length).length
 ·have Z:=h;unfold bds at Z;rw[uY V]at Z;rw[zlu _ c (j6 Z),jC (by omega)]
 ·have Z:=h;unfold bds at Z;rw[wY (by omega),show n+1-(bdK k l l.length).length=0 by omega]at Z;simp at Z;subst Z;rw[jJ (by omega)]
attribute [local irreducible] bdsT sgM
attribute [local irreducible] fsA addV addE subV subE lsE cnA cnB cnC cnE cnV cn1 divE divV sumF itR drL
set_option maxHeartbeats 2000000 in
def zfv(u:Tm)(l:List Ite)(s:Sgm)(hs:SgB l.length s)(hl:l.length<=1000000):Fn prog 323 [tmA u,itsA l,smA s] (.tup [tmA (cnV u l s),iv (cnE u l s)]):=by
 have f0:=hs.f0;have ft:=hs.ft;have tn:=hs.tn;have lf:=hs.lf;have rt:=hs.rt;have v8:=zin f0 ft tn;have H:=znQ (itR l s);have x1:cnA l s=sumF ⟨0,1⟩ (drL (itR l s)):=by unfold cnA;rfl
 have x0:cnA l s=sumF (fsA (itR l s) 0) ((drL (itR l s)).drop 0):=by rw[x1,List.drop_zero,←zgq (a:=⟨0,1⟩) H]
 refine kF func323 ntmps323 (λg w d=>?_);apply ye;iterate 2 refine zH ?_
 refine zk ?_;refine ya ?_;apply yG;refine ya ?_;refine zk ?_;refine kK ?_;apply kQ;apply yf;apply ye;refine yE ?_;apply kB;refine zM (λn=>[(1,itsA l),(3,.ptr 3 0 0 0),(5,.ptr 5 0 0 0),(6,.ptr 6 0 0 0),(8,.ptr 8 0 0 0),(9,iv (s.From+(n:Int)))]) (λn=>[(3,.box (tmE u) 83),(5,.box (smE s) 317),(6,.box [iv 0,iv 0] 83),(8,.box (tmE (fsA (itR l s) n)) 83)]) (λn=>n<=(itR l s).length/\cnA l s=sumF (fsA (itR l s) n) ((drL (itR l s)).drop n)) ((itR l s).length) (λn hk=>?_) (hJ:=by exact⟨by omega,x0⟩) (h0:=by exact kY (by(repeat'(first|exact True.intro|(refine And.intro ⟨_,rfl,?_⟩ ?_;(first|exact kH _|exact bG _|exact kR _|(refine kC ?_;simp;done)|(refine kC ?_;congr 1;omega)|(refine kC ?_;dsimp only;congr 1;omega)|(refine kC (j5 (AV.int _) ?_);omega)|exact kP _|exact bB (by assumption)|(refine kV ?_;congr 1;omega)|(refine kV ?_;congr 1;simp only[cond_true,cond_false];omega)))))) (by(repeat'(first|exact True.intro|(refine And.intro ⟨_,rfl,?_⟩ ?_;(first|exact kR _|exact bB (by assumption)|exact kV (j5 (λz=>Blk.box z 83) H)|exact kV (j5 (λz=>Blk.box z 83) G)))))));obtain⟨v5,x3⟩:=hk;refine gd ?_ ?_<;>intro v4
 ·obtain⟨x,hx⟩:∃x,(itR l s)[n]? =some x:=⟨_,lgg (by omega)⟩;have x2:=znK hx;have v3:l[(s.From+(n:Int)).toNat]? =some x:=x2.2 f0;have w2:=zp7 hx;obtain⟨G,v1,v0⟩:=w2;have J:=zBl (s:=fsA (itR l s) n) x2.1;rw[←x3]at J;have v9:fsA (itR l s) (n+1)=addV (fsA (itR l s) n) x.Dur:=(zgq G).symm;refine gq ?_;refine yW [10,25,26,27,28,29,30,31,32,33,34] [0,0,0,6,14,30,63,127,255,255,0,1535,4095] mo ?_;iterate 6 refine yb ?_
  refine yL (yZ (fsA (itR l s) n) x.Dur) ?_;iterate 3 refine yb ?_
  refine ChM.step rfl rfl rfl (zx (k:=10) zc83) rfl ?_;refine zbM 9 ⟨[(1,itsA l),(3,.ptr 3 0 0 0),(5,.ptr 5 0 0 0),(6,.ptr 6 0 0 0),(8,.ptr 8 0 0 0),(9,iv (s.From+(n:Int))),(10,.ptr 10 0 0 0),(11,iv (addE (fsA (itR l s) n) x.Dur))],[(3,.box (tmE u) 83),(5,.box (smE s) 317),(6,.box [iv 0,iv 0] 83),(8,.box (tmE (fsA (itR l s) n)) 83),(10,.box (tmE (addV (fsA (itR l s) n) x.Dur)) 83)]⟩ (λQ U=>?_) (λQ U=>?_) ?_
  ·refine kK ?_;refine ya ?_;exact kU yi U
  ·refine kK ?_;(iterate 2 refine ya ?_);exact kU yi U
  refine gd ?_ ?_<;>intro E
  ·rw[j4 E]at J;have V:=ztm (u:=u) J E;have hE:=V.1;have T:=V.2;refine gq ?_;refine yr ty83 ?_ ?_;all_goals(first|exact zE hE|exact zE T)
  refine gq ?_;refine yz (n+1) (hJ:=by exact⟨by omega,by rw[v9,J,j3 E]⟩) (hI:=kY (by(repeat'(first|exact True.intro|(refine And.intro ⟨_,rfl,?_⟩ ?_;(first|exact kH _|exact bG _|exact kR _|(refine kC ?_;simp;done)|(refine kC ?_;congr 1;omega)|(refine kC ?_;dsimp only;congr 1;omega)|(refine kC (j5 (AV.int _) ?_);omega)|exact kP _|exact bB (by assumption)|(refine kV ?_;congr 1;omega)|(refine kV ?_;congr 1;simp only[cond_true,cond_false];omega)))))) (by(repeat'(first|exact True.intro|(refine And.intro ⟨_,rfl,?_⟩ ?_;(first|exact kR _|exact bB (by assumption)|exact kV (j5 (λz=>Blk.box z 83) H)|exact kV (j5 (λz=>Blk.box z 83) G)))))))
 ·have hn:n=(itR l s).length:=by omega
  subst hn;have hA:cnA l s=((fsA (itR l s) (itR l s).length),0):=by rw[x3,w8 (by unfold drL;simp)];unfold sumF;rfl
  have N:=zxb hA;refine gd ?_ ?_<;>intro u4
  ·have hx:=zlt (l:=l) (i:=s.Left) (by omega) lf;apply yf;refine yW [12,43,44,45,46,47,48,49,50,51,52,53] [0,0,0,4,14,30,62,127,255,511,511,0,3071,8191] mo ?_;(iterate 7 refine yb ?_);refine yL (zbc (fsA (itR l s) (itR l s).length) (itg l s.Left).After) ?_;(iterate 3 refine yb ?_);refine ChM.step rfl rfl rfl (zx (k:=12) zc83) rfl ?_;refine zbM 10 ⟨[(1,itsA l),(3,.ptr 3 0 0 0),(5,.ptr 5 0 0 0),(6,.ptr 6 0 0 0),(8,.ptr 8 0 0 0),(12,.ptr 12 0 0 0),(13,iv (lsE (fsA (itR l s) (itR l s).length) (itg l s.Left).After))],[(3,.box (tmE u) 83),(5,.box (smE s) 317),(6,.box [iv 0,iv 0] 83),(8,.box (tmE (fsA (itR l s) (itR l s).length)) 83),(12,.box (tmE (if lsE (fsA (itR l s) (itR l s).length) (itg l s.Left).After=0 then subV (fsA (itR l s) (itR l s).length) (itg l s.Left).After else tmZ)) 83)]⟩ (λQ U=>?_) (λQ U=>?_) ?_
   ·refine kK ?_;refine ya ?_;exact kU yi U
   ·refine kK ?_;(iterate 2 refine ya ?_);exact kU yi U
   refine gd ?_ ?_<;>intro I
   ·rw[zrB (by omega) I]at N;have V:=zrC (u:=u) (ztn N I) I;have hE:=V.1;have T:=V.2;refine gq ?_;refine yr ty83 ?_ ?_;all_goals(first|exact zE hE|exact zE T)
   rw[zrA (by omega) I]at N;have Z:=zry N;refine gd ?_ ?_<;>intro u3
   ·have hx:=zlt (l:=l) (i:=s.Right) (by omega) rt;apply yf;refine yW [14,62,63,64,65,66,67,68,69,70,71,72] [0,0,0,4,14,30,62,127,255,511,511,0,3071,8191] mo ?_;(iterate 7 refine yb ?_);refine yL (zbc (if lsE (fsA (itR l s) (itR l s).length) (itg l s.Left).After=0 then subV (fsA (itR l s) (itR l s).length) (itg l s.Left).After else tmZ) (itg l s.Right).Before) ?_;(iterate 3 refine yb ?_);refine ChM.step rfl rfl rfl (zx (k:=14) zc83) rfl ?_;refine zbM 10 ⟨[(1,itsA l),(3,.ptr 3 0 0 0),(5,.ptr 5 0 0 0),(6,.ptr 6 0 0 0),(8,.ptr 8 0 0 0),(14,.ptr 14 0 0 0),(15,iv (lsE (if lsE (fsA (itR l s) (itR l s).length) (itg l s.Left).After=0 then subV (fsA (itR l s) (itR l s).length) (itg l s.Left).After else tmZ) (itg l s.Right).Before))],[(3,.box (tmE u) 83),(5,.box (smE s) 317),(6,.box [iv 0,iv 0] 83),(8,.box (tmE (if lsE (fsA (itR l s) (itR l s).length) (itg l s.Left).After=0 then subV (fsA (itR l s) (itR l s).length) (itg l s.Left).After else tmZ)) 83),(14,.box (tmE (if lsE (if lsE (fsA (itR l s) (itR l s).length) (itg l s.Left).After=0 then subV (fsA (itR l s) (itR l s).length) (itg l s.Left).After else tmZ) (itg l s.Right).Before=0 then subV (if lsE (fsA (itR l s) (itR l s).length) (itg l s.Left).After=0 then subV (fsA (itR l s) (itR l s).length) (itg l s.Left).After else tmZ) (itg l s.Right).Before else tmZ)) 83)]⟩ (λQ U=>?_) (λQ U=>?_) ?_
    ·refine kK ?_;refine ya ?_;exact kU yi U
    ·refine kK ?_;(iterate 2 refine ya ?_);exact kU yi U
    refine gd ?_ ?_<;>intro xT
    ·rw[zrB (by omega) xT]at Z;have V:=zrC (u:=u) Z xT;have hE:=V.1;have T:=V.2;refine gq ?_;refine yr ty83 ?_ ?_;all_goals(first|exact zE hE|exact zE T)
    rw[zrA (by omega) xT]at Z;have V:=zoJ (u:=u) Z;have hE:=V.1;have T:=V.2;refine gc (zaD (if lsE (if lsE (fsA (itR l s) (itR l s).length) (itg l s.Left).After=0 then subV (fsA (itR l s) (itR l s).length) (itg l s.Left).After else tmZ) (itg l s.Right).Before=0 then subV (if lsE (fsA (itR l s) (itR l s).length) (itg l s.Left).After=0 then subV (fsA (itR l s) (itR l s).length) (itg l s.Left).After else tmZ) (itg l s.Right).Before else tmZ) u) ?_;refine yr ty83 ?_ ?_;all_goals(first|exact zE hE|exact zE T)
   ·rw[zrz (by omega)]at Z;have V:=zoJ (u:=u) Z;have hE:=V.1;have T:=V.2;refine gc (zaD (if lsE (fsA (itR l s) (itR l s).length) (itg l s.Left).After=0 then subV (fsA (itR l s) (itR l s).length) (itg l s.Left).After else tmZ) u) ?_;refine yr ty83 ?_ ?_;all_goals(first|exact zE hE|exact zE T)
  ·rw[zrz (by omega)]at N;have Z:=zry N;refine gd ?_ ?_<;>intro u2
   ·have hx:=zlt (l:=l) (i:=s.Right) (by omega) rt;apply yf;refine yW [14,62,63,64,65,66,67,68,69,70,71,72] [0,0,0,4,14,30,62,127,255,511,511,0,3071,8191] mo ?_;(iterate 7 refine yb ?_);refine yL (zbc (fsA (itR l s) (itR l s).length) (itg l s.Right).Before) ?_;(iterate 3 refine yb ?_);refine ChM.step rfl rfl rfl (zx (k:=14) zc83) rfl ?_;refine zbM 10 ⟨[(1,itsA l),(3,.ptr 3 0 0 0),(5,.ptr 5 0 0 0),(6,.ptr 6 0 0 0),(8,.ptr 8 0 0 0),(14,.ptr 14 0 0 0),(15,iv (lsE (fsA (itR l s) (itR l s).length) (itg l s.Right).Before))],[(3,.box (tmE u) 83),(5,.box (smE s) 317),(6,.box [iv 0,iv 0] 83),(8,.box (tmE (fsA (itR l s) (itR l s).length)) 83),(14,.box (tmE (if lsE (fsA (itR l s) (itR l s).length) (itg l s.Right).Before=0 then subV (fsA (itR l s) (itR l s).length) (itg l s.Right).Before else tmZ)) 83)]⟩ (λQ U=>?_) (λQ U=>?_) ?_
    ·refine kK ?_;refine ya ?_;exact kU yi U
    ·refine kK ?_;(iterate 2 refine ya ?_);exact kU yi U
    refine gd ?_ ?_<;>intro x4
    ·rw[zrB (by omega) x4]at Z;have V:=zrC (u:=u) Z x4;have hE:=V.1;have T:=V.2;refine gq ?_;refine yr ty83 ?_ ?_;all_goals(first|exact zE hE|exact zE T)
    rw[zrA (by omega) x4]at Z;have V:=zoJ (u:=u) Z;have hE:=V.1;have T:=V.2;refine gc (zaD (if lsE (fsA (itR l s) (itR l s).length) (itg l s.Right).Before=0 then subV (fsA (itR l s) (itR l s).length) (itg l s.Right).Before else tmZ) u) ?_;refine yr ty83 ?_ ?_;all_goals(first|exact zE hE|exact zE T)
   ·rw[zrz (by omega)]at Z;have V:=zoJ (u:=u) Z;have hE:=V.1;have T:=V.2;refine gc (zaD (fsA (itR l s) (itR l s).length) u) ?_;refine yr ty83 ?_ ?_;all_goals(first|exact zE hE|exact zE T)
set_option maxHeartbeats 4000000 in
def zax(m:Mn)(k:Int)(l:List Ite)(h0:-9223372036854775808<=k)(h1:k<=9223372036854775807)(hl:l.length<=1000000):Fn prog 287 [mnA m,iv k,itsA l] (.tup [smsA (segV m k l),iv (segE m k l)]):=by
 have hok:=zkz k l;have w2:=zzz k l;have v9:=zes l (bds k l);have xT:=zpR k l;refine kF func287 ntmps287 (λg w d=>?_);refine gc (zcF m k) ?_;refine gd ?_ ?_<;>intro N
 ·have hE:segE m k l=unE m k:=by unfold segE;rw[j4 N]
  have Z:[]=segV m k l:=by unfold segV;rw[j4 (by rw[hE];exact N)]
  apply ye;refine yE ?_;refine kE ?_;refine kA (yd (ts:=[(6,smsA []),(7,iv (unE m k))]) (hs:=[])) ?_;refine ym ?_ ?_;all_goals(first|(rw[←Z];done)|exact zE hE|exact j5 (λz=>smsA z) Z|(rw[←Z];rfl))
 have hU:unE m k=0:=N;refine gc (zci l (by omega)) ?_;refine gd ?_ ?_<;>intro U
 ·have hE:segE m k l=ckIE l:=by unfold segE;rw[j3 hU,j4 U]
  have Z:[]=segV m k l:=by unfold segV;rw[j4 (by rw[hE];exact U)]
  apply ye;refine yE ?_;refine kE ?_;refine kA (yd (ts:=[(6,smsA []),(7,iv (ckIE l))]) (hs:=[])) ?_;refine ym ?_ ?_;all_goals(first|(rw[←Z];done)|exact zE hE|exact j5 (λz=>smsA z) Z|(rw[←Z];rfl))
 have hK:ckIE l=0:=U;have hP:=zcE hK;have H:∀x∈l,0<=x.Cut:=λx hx=>(zg3 (hP x hx)).1.2.2.1
 have J:segE m k l=segX (unT m k) l (sgs0 l (bds k l)):=by unfold segE;rw[j3 hU,j3 hK]
 have v8:=zzx (unT m k) l (sgs0 l (bds k l));refine gq ?_;refine yP (zev k l hl H) ?_;refine ya ?_;apply yG;refine yh ?_;iterate 2 apply yf
 refine kJ (yI smE 317 7 11 200 rfl rfl) ?_;apply yj;refine yh ?_;apply kB;refine zM (λn=>[(2,itsA l),(8,.ptr 8 0 0 0),(10,.sl brE (bdsT k l)),(11,.own 200),(12,iv (n:Int))]) (λn=>[(8,.box (tmE (unT m k)) 83),(200,.row smE (sgM (unT m k) l (sgs0 l (bds k l)) n) 317 7)]) (λn=>n<=(sgs0 l (bds k l)).length/\segX (unT m k) l (sgs0 l (bds k l))=segX (unT m k) l ((sgs0 l (bds k l)).drop n)) ((sgs0 l (bds k l)).length) (λn hk=>?_) (hJ:=by exact⟨by omega,rfl⟩);obtain⟨v5,T⟩:=hk;refine gd ?_ ?_<;>intro v4
 ·obtain⟨b,hb⟩:∃b,(bds k l)[n]? =some b:=⟨_,lgg (by omega)⟩;obtain⟨c,hc⟩:∃c,(bds k l)[n+1]? =some c:=⟨_,lgg (by omega)⟩;have hs:=zij l (bds k l) n b c hb hc;have v3:(bdsT k l)[(n:Int).toNat]? =some (bdT b):=by rw[zoK,wG,hb];rfl
  have U:(bdsT k l)[((n:Int)+1).toNat]? =some (bdT c):=by rw[zoK,show((n:Int)+1).toNat=n+1 by omega,hc];rfl
  have x4:b.item<l.length:=zvd hb;have x3:c.item<l.length:=zvd hc;have V:⟨b.next,bdF c,hdI l b,hdI l c,decide ((n:Int)+2=((bdsT k l).length:Int)),⟨0,0⟩⟩=sg0 l b c:=by unfold sg0;rw[ztq hc (n:=n) (by omega),xT]
  have x2:=hok.all _ (j6 hs);have x1:SgB l.length ⟨b.next,bdF c,hdI l b,hdI l c,decide ((n:Int)+2=((bdsT k l).length:Int)),⟨0,0⟩⟩:=by rw[V];exact x2.b
  have v1:=zto (unT m k) l (sgs0 l (bds k l)) n;have x0:=zzy (u:=unT m k) (l:=l) hs;rw[←V]at x0;refine gq ?_;refine yW [13,43,44,45,46,47,48,49,50,51,52,53,54,55,56,57,58,59,60,61,62,63,64,65,66,67,68,69,70,71,72] [0,0,3,7,15,0,0,64,224,480,992,0,0,0,12288,28672,63488,0,0,0,524288,1835008,3932160,8386560,0,16777216,0,67108864,251658240,536870911,0,2147483647] mo ?_;iterate 16 refine yb ?_
  refine yL (zcG l b x4) ?_;iterate 6 refine yb ?_
  refine yL (zcG l c x3) ?_;iterate 6 refine yb ?_
  refine ChM.step rfl rfl rfl (zx (k:=13) zrG) rfl ?_;refine yF ?_;refine gc (zfv (unT m k) l ⟨b.next,bdF c,hdI l b,hdI l c,decide ((n:Int)+2=((bdsT k l).length:Int)),⟨0,0⟩⟩ x1 hl) ?_;refine gd ?_ ?_<;>intro Q
  ·have G:=zp4 Q;have hE:segE m k l=cnE (unT m k) l ⟨b.next,bdF c,hdI l b,hdI l c,decide ((n:Int)+2=((bdsT k l).length:Int)),⟨0,0⟩⟩:=by rw[J,T,zdw hs,←V,G,j4 Q]
   have Z:[]=segV m k l:=by unfold segV;rw[j4 (by rw[hE];exact Q)]
   apply ye;refine yE ?_;refine kE ?_;refine kA (yd (ts:=[(6,smsA []),(7,iv (cnE (unT m k) l ⟨b.next,bdF c,hdI l b,hdI l c,decide ((n:Int)+2=((bdsT k l).length:Int)),⟨0,0⟩⟩))]) (hs:=[])) ?_;refine ym ?_ ?_;all_goals(first|(rw[←Z];done)|exact zE hE|exact j5 (λz=>smsA z) Z|(rw[←Z];rfl))
  have E:cnE (unT m k) l ⟨b.next,bdF c,hdI l b,hdI l c,decide ((n:Int)+2=((bdsT k l).length:Int)),⟨0,0⟩⟩=0:=Q;apply yk;apply yf;apply ye;iterate 3 refine ya ?_
  refine kI 3 ?_;refine yp ?_;iterate 3 refine kG ?_
  refine gf ?_ ?_<;>intro I
  ·have G:segR (unT m k) l ⟨b.next,bdF c,hdI l b,hdI l c,decide ((n:Int)+2=((bdsT k l).length:Int)),⟨0,0⟩⟩=14:=by unfold segR;rw[j3 E,j3 ⟨jC I.1,I.2⟩]
   have hE:segE m k l=14:=by rw[J,T,zdw hs,←V,G,j4 (by decide)]
   have Z:[]=segV m k l:=by unfold segV;rw[j4 (by rw[hE];decide)]
   apply ye;refine yO ?_;refine kE ?_;refine kA (yd (ts:=[(6,smsA []),(7,iv 14)]) (hs:=[])) ?_;refine ym ?_ ?_;all_goals(first|(rw[←Z];done)|exact zE hE|exact j5 (λz=>smsA z) Z|(rw[←Z];rfl))
  have G:segR (unT m k) l ⟨b.next,bdF c,hdI l b,hdI l c,decide ((n:Int)+2=((bdsT k l).length:Int)),⟨0,0⟩⟩=0:=by unfold segR;rw[j3 E,j4 (by intro hh;rcases I with h|h;(exact of_decide_eq_false hh.1 h);exact hh.2 h)]
  refine gq ?_;refine yD smE [segW (unT m k) l ⟨b.next,bdF c,hdI l b,hdI l c,decide ((n:Int)+2=((bdsT k l).length:Int)),⟨0,0⟩⟩] ?_;refine gq ?_;refine yz (n+1) (hJ:=by exact⟨by omega,by rw[T,zdw hs,←V,j3 G]⟩) (hI:=yi)
 ·have hn:n=(sgs0 l (bds k l)).length:=by omega
  subst hn;have hE:segE m k l=0:=by rw[J,T,wQ];rfl
  have Z:sgM (unT m k) l (sgs0 l (bds k l)) (sgs0 l (bds k l)).length=segV m k l:=by unfold segV;rw[j3 hE,ztp]
  apply kO;apply yf;refine kJ (k9 (k:=200) rfl) ?_;apply yj;refine yE ?_;refine kE ?_;skip;refine ym ?_ ?_;all_goals(first|(rw[←Z];done)|exact zE hE|exact j5 (λz=>smsA z) Z|(rw[←Z];rfl))
end Go.Rse
