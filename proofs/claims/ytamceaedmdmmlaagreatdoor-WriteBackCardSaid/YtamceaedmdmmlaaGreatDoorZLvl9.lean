/-
  Walks.
-/
import Derived.Test.YtamceaedmdmmlaaGreatDoorZJLvl13
set_option linter.all false
set_option maxHeartbeats 4000000
namespace Go.Rse
open Go Go.Proofs Go.Proofs.Tryz
attribute [local irreducible] Pur yy yz Ex X Fn Imp LeV LeB FnO It yH FnW FnOW
def zmb{l:List Ite}{i:Int}(h0:0<=i)(h:i<l.length):l[i.toNat]? =some (itg l i):=by
 unfold itg;rw[jD,lgg (by omega)];rfl
def zuL{l:List Ite}{s:Sgm}{e:Int}{u:Tm}(h:cnA l s=(tmZ,e))(h0:¬e=0):cnE u l s=e/\cnV u l s=tmZ:=by
 have:=zq6 (u:=u) (l:=l) (s:=s) (by rw[h];exact h0);rw[h]at this;exact this
def zzr{l:List Ite}{s:Sgm}{A:Tm}(h:cnA l s=(A,0)):cnB l s=cn1 A s.Left (itg l s.Left).After:=by unfold cnB;rw[h,j6 rfl]
def zsQ{l:List Ite}{s:Sgm}{B:Tm}(h:cnB l s=(B,0)):cnC l s=cn1 B s.Right (itg l s.Right).Before:=by unfold cnC;rw[h,j6 rfl]
def zuM{l:List Ite}{s:Sgm}{e:Int}(h:cnB l s=(tmZ,e))(h0:¬e=0):cnC l s=(tmZ,e):=by unfold cnC;rw[h,j7 h0]
def zsR{t d:Tm}{h:Int}(Z:h<0):cn1 t h d=(t,0):=by unfold cn1;rw[j6 Z]
def zsS{t d:Tm}{h:Int}(Z:0<=h)(he:lsE t d=0):cn1 t h d=(if lsE t d=0 then subV t d else tmZ,0):=by unfold cn1;rw[j7 (by omega),j6 he,j6 he]
def zsT{t d:Tm}{h:Int}(Z:0<=h)(he:¬lsE t d=0):cn1 t h d=(tmZ,lsE t d):=by unfold cn1;rw[j7 (by omega),j7 he]
def zpO{u:Tm}{l:List Ite}{s:Sgm}{t:Tm}(h:cnC l s=(t,0)):cnE u l s=divE t u/\cnV u l s=divV t u:=by
 have:=zq8 (u:=u) (l:=l) (s:=s) (by rw[h]);rw[h]at this;exact this
def zsU{u:Tm}{l:List Ite}{s:Sgm}{e:Int}(h:cnC l s=(tmZ,e))(h0:¬e=0):cnE u l s=e/\cnV u l s=tmZ:=by
 have:=zq7 (u:=u) (l:=l) (s:=s) (by rw[h];exact h0);rw[h]at this;exact this
def sgM(u:Tm)(l:List Ite)(L:List Sgm)(n:Nat):List Sgm:=(L.take n).map (segW u l)
def zCn(u:Tm)(l:List Ite)(L:List Sgm):[]=sgM u l L 0:=by unfold sgM;rw[vY];rfl
def zCo{u:Tm}{l:List Ite}{L:List Sgm}{n:Nat}{s:Sgm}(h:L[n]? =some s):sgM u l L n++[segW u l s]=sgM u l L (n+1):=by
 unfold sgM;rw[jG,h,xC];rfl
def zuN(u:Tm)(l:List Ite)(L:List Sgm)(n:Nat):(sgM u l L n).length<=n:=by unfold sgM;rw[jS,jO];omega
def zuO(u:Tm)(l:List Ite)(L:List Sgm):sgM u l L L.length=L.map (segW u l):=by unfold sgM;rw[jK]
def zpP(k:Int)(l:List Ite)(n:Nat):(bdsT k l)[n]? =(bds k l)[n]?.map bdT:=by unfold bdsT;rw[jN]
def zCp(k:Int)(l:List Ite):1<=(bds k l).length/\(bds k l).length<=2*l.length+2:=by
 have:=zfb k l l.length;rw[zfd];omega
def zwZ{k:Int}{l:List Ite}{n:Nat}{b:Bd}(h:(bds k l)[n]? =some b):b.item<l.length:=by
 have:=(znD k l).1 b (j8 h);have hi:=this.hi;rcases this.it with h|h<;>omega
def zmc{k:Int}{l:List Ite}:∀n,∀b∈bdK k l n,b.fin=false
 |0,b,h=>by simp[bdK]at h;subst h;rfl
 |n+1,b,h=>by
  cases hx:l[n]? with
  |none=>
   have e:bdK k l (n+1)=bdK k l n:=by
    conv=>lhs;unfold bdK
    rw[hx]
   rw[e]at h;exact zmc n b h
  |some x=>
   rw[zdy hx]at h;rcases jY.1 h with h|h
   ·rcases jY.1 h with h|h
    ·exact zmc n b h
    ·split at h
     ·simp at h;subst h;rfl
     ·simp at h
   ·split at h
    ·simp at h;subst h;rfl
    ·simp at h
def zuP{k:Int}{l:List Ite}{n:Nat}{c:Bd}(h:(bds k l)[n+1]? =some c)(hn:n+1<(bds k l).length):c.fin=decide ((n:Int)+2=((bds k l).length:Int)):=by
 have hl:=zfd k l;by_cases V:n+1<(bdK k l l.length).length
 ·have Z:=h;unfold bds at Z;rw[wS V]at Z;rw[zmc _ c (j8 Z),jH (by omega)]
 ·have Z:=h;unfold bds at Z;rw[u6 (by omega),show n+1-(bdK k l l.length).length=0 by omega]at Z;simp at Z;subst Z;rw[jJ (by omega)]
attribute [local irreducible] bdsT sgM
attribute [local irreducible] fsA addV addE subV subE lsE cnA cnB cnC cnE cnV cn1 divE divV sumF itR drL
def zfA(u:Tm)(l:List Ite)(s:Sgm)(hs:SgB l.length s)(hl:l.length<=1000000):Fn prog 248 [tmA u,itsA l,smA s] (.tup [tmA (cnV u l s),iv (cnE u l s)]):=by
 have f0:=hs.f0;have ft:=hs.ft;have tn:=hs.tn;have lf:=hs.lf;have rt:=hs.rt;have v8:=ziQ f0 ft tn;have G:=zoQ (itR l s);have x0:cnA l s=sumF ⟨0,1⟩ (drL (itR l s)):=by unfold cnA;rfl
 have w9:cnA l s=sumF (fsA (itR l s) 0) ((drL (itR l s)).drop 0):=by rw[x0,List.drop_zero,←zgE (a:=⟨0,1⟩) G]
 refine kR func248 ntmps248 (λg w d=>?_);apply ye;iterate 2 refine zz ?_
 refine za ?_;refine ya ?_;apply yE;refine ya ?_;refine za ?_;refine kV ?_;apply kW;apply yh;apply ye;refine yC ?_;apply kP;refine zW (λn=>[(1,itsA l),(3,.ptr 3 0 0 0),(5,.ptr 5 0 0 0),(6,.ptr 6 0 0 0),(8,.ptr 8 0 0 0),(9,iv (s.From+(n:Int)))]) (λn=>[(3,.box (tmE u) 61),(5,.box (smE s) 260),(6,.box [iv 0,iv 0] 61),(8,.box (tmE (fsA (itR l s) n)) 61)]) (λn=>n<=(itR l s).length/\cnA l s=sumF (fsA (itR l s) n) ((drL (itR l s)).drop n)) ((itR l s).length) (λn hk=>?_) (hJ:=by exact⟨by omega,w9⟩) (h0:=by exact bL (by(repeat'(first|exact True.intro|(refine And.intro ⟨_,rfl,?_⟩ ?_;(first|exact kX _|exact bR _|exact bD _|(refine kO ?_;simp;done)|(refine kO ?_;congr 1;omega)|(refine kO ?_;dsimp only;congr 1;omega)|(refine kO (j9 (AV.int _) ?_);omega)|exact bB _|exact bM (by assumption)|(refine bG ?_;congr 1;omega)|(refine bG ?_;congr 1;simp only[cond_true,cond_false];omega)))))) (by(repeat'(first|exact True.intro|(refine And.intro ⟨_,rfl,?_⟩ ?_;(first|exact bD _|exact bM (by assumption)|exact bG (j9 (λz=>Blk.box z 61) G)|exact bG (j9 (λz=>Blk.box z 61) E)))))));obtain⟨v5,x2⟩:=hk;refine gd ?_ ?_<;>intro v4
 ·obtain⟨x,hx⟩:∃x,(itR l s)[n]? =some x:=⟨_,lgg (by omega)⟩;have x1:=zoL hx;have v3:l[(s.From+(n:Int)).toNat]? =some x:=x1.2 f0;have w2:=zrd hx;obtain⟨E,v2,v1⟩:=w2;have J:=zEs (s:=fsA (itR l s) n) x1.1;rw[←x2]at J;have v9:fsA (itR l s) (n+1)=addV (fsA (itR l s) n) x.Dur:=(zgE E).symm;refine gq ?_;refine yW [10,25,26,27,28,29,30,31,32,33,34] [0,0,0,6,14,30,63,127,255,255,0,1535,4095] mo ?_;iterate 6 refine yb ?_
  refine yO (y4 (fsA (itR l s) n) x.Dur) ?_;iterate 3 refine yb ?_
  refine ChM.step rfl rfl rfl (zp (k:=10) zc61) rfl ?_;refine zbS 9 ⟨[(1,itsA l),(3,.ptr 3 0 0 0),(5,.ptr 5 0 0 0),(6,.ptr 6 0 0 0),(8,.ptr 8 0 0 0),(9,iv (s.From+(n:Int))),(10,.ptr 10 0 0 0),(11,iv (addE (fsA (itR l s) n) x.Dur))],[(3,.box (tmE u) 61),(5,.box (smE s) 260),(6,.box [iv 0,iv 0] 61),(8,.box (tmE (fsA (itR l s) n)) 61),(10,.box (tmE (addV (fsA (itR l s) n) x.Dur)) 61)]⟩ (λQ U=>?_) (λQ U=>?_) ?_
  ·refine kV ?_;refine ya ?_;exact bF yg U
  ·refine kV ?_;(iterate 2 refine ya ?_);exact bF yg U
  refine gd ?_ ?_<;>intro xT
  ·rw[j7 xT]at J;have V:=zuL (u:=u) J xT;have hE:=V.1;have T:=V.2;refine gq ?_;refine yx ty61 ?_ ?_;all_goals(first|exact zE hE|exact zE T)
  refine gq ?_;refine yu (n+1) (hJ:=by exact⟨by omega,by rw[v9,J,j6 xT]⟩) (hI:=bL (by(repeat'(first|exact True.intro|(refine And.intro ⟨_,rfl,?_⟩ ?_;(first|exact kX _|exact bR _|exact bD _|(refine kO ?_;simp;done)|(refine kO ?_;congr 1;omega)|(refine kO ?_;dsimp only;congr 1;omega)|(refine kO (j9 (AV.int _) ?_);omega)|exact bB _|exact bM (by assumption)|(refine bG ?_;congr 1;omega)|(refine bG ?_;congr 1;simp only[cond_true,cond_false];omega)))))) (by(repeat'(first|exact True.intro|(refine And.intro ⟨_,rfl,?_⟩ ?_;(first|exact bD _|exact bM (by assumption)|exact bG (j9 (λz=>Blk.box z 61) G)|exact bG (j9 (λz=>Blk.box z 61) E)))))))
 ·have hn:n=(itR l s).length:=by omega
  subst hn;have hA:cnA l s=((fsA (itR l s) (itR l s).length),0):=by rw[x2,wH (by unfold drL;simp)];unfold sumF;rfl
  have N:=zzr hA;refine gd ?_ ?_<;>intro v0
  ·have hx:=zmb (l:=l) (i:=s.Left) (by omega) lf;apply yh;refine yW [12,43,44,45,46,47,48,49,50,51,52,53] [0,0,0,4,14,30,62,127,255,511,511,0,3071,8191] mo ?_;(iterate 7 refine yb ?_);refine yO (zbh (fsA (itR l s) (itR l s).length) (itg l s.Left).After) ?_;(iterate 3 refine yb ?_);refine ChM.step rfl rfl rfl (zp (k:=12) zc61) rfl ?_;refine zbS 10 ⟨[(1,itsA l),(3,.ptr 3 0 0 0),(5,.ptr 5 0 0 0),(6,.ptr 6 0 0 0),(8,.ptr 8 0 0 0),(12,.ptr 12 0 0 0),(13,iv (lsE (fsA (itR l s) (itR l s).length) (itg l s.Left).After))],[(3,.box (tmE u) 61),(5,.box (smE s) 260),(6,.box [iv 0,iv 0] 61),(8,.box (tmE (fsA (itR l s) (itR l s).length)) 61),(12,.box (tmE (if lsE (fsA (itR l s) (itR l s).length) (itg l s.Left).After=0 then subV (fsA (itR l s) (itR l s).length) (itg l s.Left).After else tmZ)) 61)]⟩ (λQ U=>?_) (λQ U=>?_) ?_
   ·refine kV ?_;refine ya ?_;exact bF yg U
   ·refine kV ?_;(iterate 2 refine ya ?_);exact bF yg U
   refine gd ?_ ?_<;>intro H
   ·rw[zsT (by omega) H]at N;have V:=zsU (u:=u) (zuM N H) H;have hE:=V.1;have T:=V.2;refine gq ?_;refine yx ty61 ?_ ?_;all_goals(first|exact zE hE|exact zE T)
   rw[zsS (by omega) H]at N;have Z:=zsQ N;refine gd ?_ ?_<;>intro u4
   ·have hx:=zmb (l:=l) (i:=s.Right) (by omega) rt;apply yh;refine yW [14,62,63,64,65,66,67,68,69,70,71,72] [0,0,0,4,14,30,62,127,255,511,511,0,3071,8191] mo ?_;(iterate 7 refine yb ?_);refine yO (zbh (if lsE (fsA (itR l s) (itR l s).length) (itg l s.Left).After=0 then subV (fsA (itR l s) (itR l s).length) (itg l s.Left).After else tmZ) (itg l s.Right).Before) ?_;(iterate 3 refine yb ?_);refine ChM.step rfl rfl rfl (zp (k:=14) zc61) rfl ?_;refine zbS 10 ⟨[(1,itsA l),(3,.ptr 3 0 0 0),(5,.ptr 5 0 0 0),(6,.ptr 6 0 0 0),(8,.ptr 8 0 0 0),(14,.ptr 14 0 0 0),(15,iv (lsE (if lsE (fsA (itR l s) (itR l s).length) (itg l s.Left).After=0 then subV (fsA (itR l s) (itR l s).length) (itg l s.Left).After else tmZ) (itg l s.Right).Before))],[(3,.box (tmE u) 61),(5,.box (smE s) 260),(6,.box [iv 0,iv 0] 61),(8,.box (tmE (if lsE (fsA (itR l s) (itR l s).length) (itg l s.Left).After=0 then subV (fsA (itR l s) (itR l s).length) (itg l s.Left).After else tmZ)) 61),(14,.box (tmE (if lsE (if lsE (fsA (itR l s) (itR l s).length) (itg l s.Left).After=0 then subV (fsA (itR l s) (itR l s).length) (itg l s.Left).After else tmZ) (itg l s.Right).Before=0 then subV (if lsE (fsA (itR l s) (itR l s).length) (itg l s.Left).After=0 then subV (fsA (itR l s) (itR l s).length) (itg l s.Left).After else tmZ) (itg l s.Right).Before else tmZ)) 61)]⟩ (λQ U=>?_) (λQ U=>?_) ?_
    ·refine kV ?_;refine ya ?_;exact bF yg U
    ·refine kV ?_;(iterate 2 refine ya ?_);exact bF yg U
    refine gd ?_ ?_<;>intro x4
    ·rw[zsT (by omega) x4]at Z;have V:=zsU (u:=u) Z x4;have hE:=V.1;have T:=V.2;refine gq ?_;refine yx ty61 ?_ ?_;all_goals(first|exact zE hE|exact zE T)
    rw[zsS (by omega) x4]at Z;have V:=zpO (u:=u) Z;have hE:=V.1;have T:=V.2;refine gc (zaJ (if lsE (if lsE (fsA (itR l s) (itR l s).length) (itg l s.Left).After=0 then subV (fsA (itR l s) (itR l s).length) (itg l s.Left).After else tmZ) (itg l s.Right).Before=0 then subV (if lsE (fsA (itR l s) (itR l s).length) (itg l s.Left).After=0 then subV (fsA (itR l s) (itR l s).length) (itg l s.Left).After else tmZ) (itg l s.Right).Before else tmZ) u) ?_;refine yx ty61 ?_ ?_;all_goals(first|exact zE hE|exact zE T)
   ·rw[zsR (by omega)]at Z;have V:=zpO (u:=u) Z;have hE:=V.1;have T:=V.2;refine gc (zaJ (if lsE (fsA (itR l s) (itR l s).length) (itg l s.Left).After=0 then subV (fsA (itR l s) (itR l s).length) (itg l s.Left).After else tmZ) u) ?_;refine yx ty61 ?_ ?_;all_goals(first|exact zE hE|exact zE T)
  ·rw[zsR (by omega)]at N;have Z:=zsQ N;refine gd ?_ ?_<;>intro u3
   ·have hx:=zmb (l:=l) (i:=s.Right) (by omega) rt;apply yh;refine yW [14,62,63,64,65,66,67,68,69,70,71,72] [0,0,0,4,14,30,62,127,255,511,511,0,3071,8191] mo ?_;(iterate 7 refine yb ?_);refine yO (zbh (fsA (itR l s) (itR l s).length) (itg l s.Right).Before) ?_;(iterate 3 refine yb ?_);refine ChM.step rfl rfl rfl (zp (k:=14) zc61) rfl ?_;refine zbS 10 ⟨[(1,itsA l),(3,.ptr 3 0 0 0),(5,.ptr 5 0 0 0),(6,.ptr 6 0 0 0),(8,.ptr 8 0 0 0),(14,.ptr 14 0 0 0),(15,iv (lsE (fsA (itR l s) (itR l s).length) (itg l s.Right).Before))],[(3,.box (tmE u) 61),(5,.box (smE s) 260),(6,.box [iv 0,iv 0] 61),(8,.box (tmE (fsA (itR l s) (itR l s).length)) 61),(14,.box (tmE (if lsE (fsA (itR l s) (itR l s).length) (itg l s.Right).Before=0 then subV (fsA (itR l s) (itR l s).length) (itg l s.Right).Before else tmZ)) 61)]⟩ (λQ U=>?_) (λQ U=>?_) ?_
    ·refine kV ?_;refine ya ?_;exact bF yg U
    ·refine kV ?_;(iterate 2 refine ya ?_);exact bF yg U
    refine gd ?_ ?_<;>intro x3
    ·rw[zsT (by omega) x3]at Z;have V:=zsU (u:=u) Z x3;have hE:=V.1;have T:=V.2;refine gq ?_;refine yx ty61 ?_ ?_;all_goals(first|exact zE hE|exact zE T)
    rw[zsS (by omega) x3]at Z;have V:=zpO (u:=u) Z;have hE:=V.1;have T:=V.2;refine gc (zaJ (if lsE (fsA (itR l s) (itR l s).length) (itg l s.Right).Before=0 then subV (fsA (itR l s) (itR l s).length) (itg l s.Right).Before else tmZ) u) ?_;refine yx ty61 ?_ ?_;all_goals(first|exact zE hE|exact zE T)
   ·rw[zsR (by omega)]at Z;have V:=zpO (u:=u) Z;have hE:=V.1;have T:=V.2;refine gc (zaJ (fsA (itR l s) (itR l s).length) u) ?_;refine yx ty61 ?_ ?_;all_goals(first|exact zE hE|exact zE T)
def zaC(m:Mn)(k:Int)(l:List Ite)(h0:-9223372036854775808<=k)(h1:k<=9223372036854775807)(hl:l.length<=1000000):Fn prog 206 [mnA m,iv k,itsA l] (.tup [smsA (segV m k l),iv (segE m k l)]):=by
 have hok:=zll k l;have w2:=zCp k l;have v9:=zer l (bds k l);have x4:=zq0 k l;refine kR func206 ntmps206 (λg w d=>?_);refine gc (zcJ m k) ?_;refine gd ?_ ?_<;>intro J
 ·have hE:segE m k l=unE m k:=by unfold segE;rw[j7 J]
  have Z:[]=segV m k l:=by unfold segV;rw[j7 (by rw[hE];exact J)]
  apply ye;refine yC ?_;refine kQ ?_;refine kM (yd (ts:=[(6,smsA []),(7,iv (unE m k))]) (hs:=[])) ?_;refine yl ?_ ?_;all_goals(first|(rw[←Z];done)|exact zE hE|exact j9 (λz=>smsA z) Z|(rw[←Z];rfl))
 have hU:unE m k=0:=J;refine gc (zcn l (by omega)) ?_;refine gd ?_ ?_<;>intro U
 ·have hE:segE m k l=ckIE l:=by unfold segE;rw[j6 hU,j7 U]
  have Z:[]=segV m k l:=by unfold segV;rw[j7 (by rw[hE];exact U)]
  apply ye;refine yC ?_;refine kQ ?_;refine kM (yd (ts:=[(6,smsA []),(7,iv (ckIE l))]) (hs:=[])) ?_;refine yl ?_ ?_;all_goals(first|(rw[←Z];done)|exact zE hE|exact j9 (λz=>smsA z) Z|(rw[←Z];rfl))
 have hK:ckIE l=0:=U;have hP:=zcI hK;have E:∀x∈l,0<=x.Cut:=λx hx=>(zhj (hP x hx)).1.2.2.1
 have H:segE m k l=segX (unT m k) l (sgs0 l (bds k l)):=by unfold segE;rw[j6 hU,j6 hK]
 have v8:=zCn (unT m k) l (sgs0 l (bds k l));refine gq ?_;refine yR (zet k l hl E) ?_;refine ya ?_;apply yE;refine yj ?_;iterate 2 apply yh
 refine kT (yG smE 260 7 11 200 rfl rfl) ?_;apply yf;refine yj ?_;apply kP;refine zW (λn=>[(2,itsA l),(8,.ptr 8 0 0 0),(10,.sl brE (bdsT k l)),(11,.own 200),(12,iv (n:Int))]) (λn=>[(8,.box (tmE (unT m k)) 61),(200,.row smE (sgM (unT m k) l (sgs0 l (bds k l)) n) 260 7)]) (λn=>n<=(sgs0 l (bds k l)).length/\segX (unT m k) l (sgs0 l (bds k l))=segX (unT m k) l ((sgs0 l (bds k l)).drop n)) ((sgs0 l (bds k l)).length) (λn hk=>?_) (hJ:=by exact⟨by omega,rfl⟩);obtain⟨v5,T⟩:=hk;refine gd ?_ ?_<;>intro v4
 ·obtain⟨b,hb⟩:∃b,(bds k l)[n]? =some b:=⟨_,lgg (by omega)⟩;obtain⟨c,hc⟩:∃c,(bds k l)[n+1]? =some c:=⟨_,lgg (by omega)⟩;have hs:=ziL l (bds k l) n b c hb hc;have v3:(bdsT k l)[(n:Int).toNat]? =some (bdT b):=by rw[zpP,wN,hb];rfl
  have U:(bdsT k l)[((n:Int)+1).toNat]? =some (bdT c):=by rw[zpP,show((n:Int)+1).toNat=n+1 by omega,hc];rfl
  have x3:b.item<l.length:=zwZ hb;have x2:c.item<l.length:=zwZ hc;have V:⟨b.next,bdF c,hdI l b,hdI l c,decide ((n:Int)+2=((bdsT k l).length:Int)),⟨0,0⟩⟩=sg0 l b c:=by unfold sg0;rw[zuP hc (n:=n) (by omega),x4]
  have x1:=hok.all _ (j8 hs);have x0:SgB l.length ⟨b.next,bdF c,hdI l b,hdI l c,decide ((n:Int)+2=((bdsT k l).length:Int)),⟨0,0⟩⟩:=by rw[V];exact x1.b
  have v2:=zuN (unT m k) l (sgs0 l (bds k l)) n;have w9:=zCo (u:=unT m k) (l:=l) hs;rw[←V]at w9;refine gq ?_;refine yW [13,43,44,45,46,47,48,49,50,51,52,53,54,55,56,57,58,59,60,61,62,63,64,65,66,67,68,69,70,71,72] [0,0,3,7,15,0,0,64,224,480,992,0,0,0,12288,28672,63488,0,0,0,524288,1835008,3932160,8386560,0,16777216,0,67108864,251658240,536870911,0,2147483647] mo ?_;iterate 16 refine yb ?_
  refine yO (zcK l b x3) ?_;iterate 6 refine yb ?_
  refine yO (zcK l c x2) ?_;iterate 6 refine yb ?_
  refine ChM.step rfl rfl rfl (zp (k:=13) zsZ) rfl ?_;refine yI ?_;refine gc (zfA (unT m k) l ⟨b.next,bdF c,hdI l b,hdI l c,decide ((n:Int)+2=((bdsT k l).length:Int)),⟨0,0⟩⟩ x0 hl) ?_;refine gd ?_ ?_<;>intro N
  ·have hR:=zra N;have hE:segE m k l=cnE (unT m k) l ⟨b.next,bdF c,hdI l b,hdI l c,decide ((n:Int)+2=((bdsT k l).length:Int)),⟨0,0⟩⟩:=by rw[H,T,zdz hs,←V,hR,j7 N]
   have Z:[]=segV m k l:=by unfold segV;rw[j7 (by rw[hE];exact N)]
   apply ye;refine yC ?_;refine kQ ?_;refine kM (yd (ts:=[(6,smsA []),(7,iv (cnE (unT m k) l ⟨b.next,bdF c,hdI l b,hdI l c,decide ((n:Int)+2=((bdsT k l).length:Int)),⟨0,0⟩⟩))]) (hs:=[])) ?_;refine yl ?_ ?_;all_goals(first|(rw[←Z];done)|exact zE hE|exact j9 (λz=>smsA z) Z|(rw[←Z];rfl))
  have xT:cnE (unT m k) l ⟨b.next,bdF c,hdI l b,hdI l c,decide ((n:Int)+2=((bdsT k l).length:Int)),⟨0,0⟩⟩=0:=N;apply yk;apply yh;apply ye;iterate 3 refine ya ?_
  refine kU 3 ?_;refine yo ?_;iterate 3 refine kS ?_
  refine gf ?_ ?_<;>intro G
  ·have hR:segR (unT m k) l ⟨b.next,bdF c,hdI l b,hdI l c,decide ((n:Int)+2=((bdsT k l).length:Int)),⟨0,0⟩⟩=14:=by unfold segR;rw[j6 xT,j6 ⟨jH G.1,G.2⟩]
   have hE:segE m k l=14:=by rw[H,T,zdz hs,←V,hR,j7 (by decide)]
   have Z:[]=segV m k l:=by unfold segV;rw[j7 (by rw[hE];decide)]
   apply ye;refine yQ ?_;refine kQ ?_;refine kM (yd (ts:=[(6,smsA []),(7,iv 14)]) (hs:=[])) ?_;refine yl ?_ ?_;all_goals(first|(rw[←Z];done)|exact zE hE|exact j9 (λz=>smsA z) Z|(rw[←Z];rfl))
  have hR:segR (unT m k) l ⟨b.next,bdF c,hdI l b,hdI l c,decide ((n:Int)+2=((bdsT k l).length:Int)),⟨0,0⟩⟩=0:=by unfold segR;rw[j6 xT,j7 (by intro hh;rcases G with h|h;(exact of_decide_eq_false hh.1 h);exact hh.2 h)]
  refine gq ?_;refine yD smE [segW (unT m k) l ⟨b.next,bdF c,hdI l b,hdI l c,decide ((n:Int)+2=((bdsT k l).length:Int)),⟨0,0⟩⟩] ?_;refine gq ?_;refine yu (n+1) (hJ:=by exact⟨by omega,by rw[T,zdz hs,←V,j6 hR]⟩) (hI:=yg)
 ·have hn:n=(sgs0 l (bds k l)).length:=by omega
  subst hn;have hE:segE m k l=0:=by rw[H,T,wT];rfl
  have Z:sgM (unT m k) l (sgs0 l (bds k l)) (sgs0 l (bds k l)).length=segV m k l:=by unfold segV;rw[j6 hE,zuO]
  apply bA;apply yh;refine kT (kL (k:=200) rfl) ?_;apply yf;refine yC ?_;refine kQ ?_;skip;refine yl ?_ ?_;all_goals(first|(rw[←Z];done)|exact zE hE|exact j9 (λz=>smsA z) Z|(rw[←Z];rfl))
end Go.Rse
