/-
  Walks.
-/
import Derived.Test.YtbopkhoalndflaaGreatDoorUJLvl13
set_option linter.all false
namespace Go.Rse
open Go Go.Proofs Go.Proofs.Tryz
attribute [local irreducible] Pur yA yC Ex X Fn Imp LeV LeB FnO It yH FnW FnOW
def zlU{l:List Ite}{i:Int}(h0:0<=i)(h:i<l.length):l[i.toNat]? =some (itg l i):=by
 unfold itg;rw[j8,lgg (by omega)];rfl
def ztM{l:List Ite}{s:Sgm}{e:Int}{u:Tm}(h:cnA l s=(tmZ,e))(h0:¬e=0):cnE u l s=e/\cnV u l s=tmZ:=by
 have:=zqF (u:=u) (l:=l) (s:=s) (by rw[h];exact h0);rw[h]at this;exact this
def zxO{l:List Ite}{s:Sgm}{A:Tm}(h:cnA l s=(A,0)):cnB l s=cn1 A s.Left (itg l s.Left).After:=by unfold cnB;rw[h,j4 rfl]
def zr6{l:List Ite}{s:Sgm}{B:Tm}(h:cnB l s=(B,0)):cnC l s=cn1 B s.Right (itg l s.Right).Before:=by unfold cnC;rw[h,j4 rfl]
def ztN{l:List Ite}{s:Sgm}{e:Int}(h:cnB l s=(tmZ,e))(h0:¬e=0):cnC l s=(tmZ,e):=by unfold cnC;rw[h,j3 h0]
def zr7{t d:Tm}{h:Int}(Z:h<0):cn1 t h d=(t,0):=by unfold cn1;rw[j4 Z]
def zr8{t d:Tm}{h:Int}(Z:0<=h)(he:lsE t d=0):cn1 t h d=(if lsE t d=0 then subV t d else tmZ,0):=by unfold cn1;rw[j3 (by omega),j4 he,j4 he]
def zr9{t d:Tm}{h:Int}(Z:0<=h)(he:¬lsE t d=0):cn1 t h d=(tmZ,lsE t d):=by unfold cn1;rw[j3 (by omega),j3 he]
def zpo{u:Tm}{l:List Ite}{s:Sgm}{t:Tm}(h:cnC l s=(t,0)):cnE u l s=divE t u/\cnV u l s=divV t u:=by
 have:=zqH (u:=u) (l:=l) (s:=s) (by rw[h]);rw[h]at this;exact this
def zsa{u:Tm}{l:List Ite}{s:Sgm}{e:Int}(h:cnC l s=(tmZ,e))(h0:¬e=0):cnE u l s=e/\cnV u l s=tmZ:=by
 have:=zqG (u:=u) (l:=l) (s:=s) (by rw[h];exact h0);rw[h]at this;exact this
def sgM(u:Tm)(l:List Ite)(L:List Sgm)(n:Nat):List Sgm:=(L.take n).map (segW u l)
def zAx(u:Tm)(l:List Ite)(L:List Sgm):[]=sgM u l L 0:=by unfold sgM;rw[vX];rfl
def zAy{u:Tm}{l:List Ite}{L:List Sgm}{n:Nat}{s:Sgm}(h:L[n]? =some s):sgM u l L n++[segW u l s]=sgM u l L (n+1):=by
 unfold sgM;rw[jA,h,xD];rfl
def ztO(u:Tm)(l:List Ite)(L:List Sgm)(n:Nat):(sgM u l L n).length<=n:=by unfold sgM;rw[jO,jL];omega
def ztP(u:Tm)(l:List Ite)(L:List Sgm):sgM u l L L.length=L.map (segW u l):=by unfold sgM;rw[j9]
def zpp(k:Int)(l:List Ite)(n:Nat):(bdsT k l)[n]? =(bds k l)[n]?.map bdT:=by unfold bdsT;rw[jJ]
def zAz(k:Int)(l:List Ite):1<=(bds k l).length/\(bds k l).length<=2*l.length+2:=by
 have:=zfj k l l.length;rw[zfk];omega
def zvD{k:Int}{l:List Ite}{n:Nat}{b:Bd}(h:(bds k l)[n]? =some b):b.item<l.length:=by
 have:=(zno k l).1 b (j5 h);have hi:=this.hi;rcases this.it with h|h<;>omega
def zlV{k:Int}{l:List Ite}:∀n,∀b∈bdK k l n,b.fin=false
 |0,b,h=>by simp[bdK]at h;subst h;rfl
 |n+1,b,h=>by
  cases hx:l[n]? with
  |none=>
   have e:bdK k l (n+1)=bdK k l n:=by
    conv=>lhs;unfold bdK
    rw[hx]
   rw[e]at h;exact zlV n b h
  |some x=>
   rw[zdR hx]at h;rcases wP.1 h with h|h
   ·rcases wP.1 h with h|h
    ·exact zlV n b h
    ·split at h
     ·simp at h;subst h;rfl
     ·simp at h
   ·split at h
    ·simp at h;subst h;rfl
    ·simp at h
def ztQ{k:Int}{l:List Ite}{n:Nat}{c:Bd}(h:(bds k l)[n+1]? =some c)(U:n+1<(bds k l).length):c.fin=decide ((n:Int)+2=((bds k l).length:Int)):=by
 have hl:=zfk k l;by_cases V:n+1<(bdK k l l.length).length
 ·have Z:=h;unfold bds at Z;rw[uI V]at Z;rw[zlV _ c (j5 Z),jD (by omega)]
 ·have Z:=h;unfold bds at Z;rw[wK (by omega),show n+1-(bdK k l l.length).length=0 by omega]at Z;simp at Z;subst Z;rw[jH (by omega)]
attribute [local irreducible] bdsT sgM
attribute [local irreducible] fsA addV addE subV subE lsE cnA cnB cnC cnE cnV cn1 divE divV sumF itR drL
set_option maxHeartbeats 2000000 in
def zfQ(u:Tm)(l:List Ite)(s:Sgm)(hs:SgB l.length s)(hl:l.length<=1000000):Fn prog 323 [tmA u,itsA l,smA s] (.tup [tmA (cnV u l s),iv (cnE u l s)]):=by
 have f0:=hs.f0;have ft:=hs.ft;have tn:=hs.tn;have lf:=hs.lf;have rt:=hs.rt;have v5:=ziX f0 ft tn;have H:=zow (itR l s);have x0:cnA l s=sumF ⟨0,1⟩ (drL (itR l s)):=by unfold cnA;rfl
 have w2:cnA l s=sumF (fsA (itR l s) 0) ((drL (itR l s)).drop 0):=by rw[x0,List.drop_zero,←zgN (a:=⟨0,1⟩) H]
 refine kC func323 ntmps323 (λg w d=>?_);apply ye;iterate 2 refine zZ ?_
 refine zb ?_;refine ya ?_;apply yG;refine ya ?_;refine zb ?_;refine kI ?_;apply kL;apply yf;apply ye;refine yq ?_;apply kA;refine zV (λn=>[(1,itsA l),(3,.ptr 3 0 0 0),(5,.ptr 5 0 0 0),(6,.ptr 6 0 0 0),(8,.ptr 8 0 0 0),(9,iv (s.From+(n:Int)))]) (λn=>[(3,.box (tmE u) 83),(5,.box (smE s) 317),(6,.box [iv 0,iv 0] 83),(8,.box (tmE (fsA (itR l s) n)) 83)]) (λn=>n<=(itR l s).length/\cnA l s=sumF (fsA (itR l s) n) ((drL (itR l s)).drop n)) ((itR l s).length) (λn hk=>?_) (hJ:=by exact⟨by omega,w2⟩) (h0:=by exact bC (by(repeat'(first|exact True.intro|(refine And.intro ⟨_,rfl,?_⟩ ?_;(first|exact kU _|exact bG _|exact kT _|(refine kB ?_;simp;done)|(refine kB ?_;congr 1;omega)|(refine kB ?_;dsimp only;congr 1;omega)|(refine kB (j6 (AV.int _) ?_);omega)|exact kO _|exact kZ (by assumption)|(refine kV ?_;congr 1;omega)|(refine kV ?_;congr 1;simp only[cond_true,cond_false];omega)))))) (by(repeat'(first|exact True.intro|(refine And.intro ⟨_,rfl,?_⟩ ?_;(first|exact kT _|exact kZ (by assumption)|exact kV (j6 (λz=>Blk.box z 83) H)|exact kV (j6 (λz=>Blk.box z 83) E)))))));obtain⟨v4,x2⟩:=hk;refine gd ?_ ?_<;>intro v3
 ·obtain⟨x,hx⟩:∃x,(itR l s)[n]? =some x:=⟨_,lgg (by omega)⟩;have x1:=zoq hx;have v1:l[(s.From+(n:Int)).toNat]? =some x:=x1.2 f0;have v9:=zqM hx;obtain⟨E,v0,u3⟩:=v9;have J:=zCC (s:=fsA (itR l s) n) x1.1;rw[←x2]at J;have v8:fsA (itR l s) (n+1)=addV (fsA (itR l s) n) x.Dur:=(zgN E).symm;refine gq ?_;refine yQ [10,25,26,27,28,29,30,31,32,33,34] [0,0,0,6,14,30,63,127,255,255,0,1535,4095] mo ?_;iterate 6 refine yb ?_
  refine yI (zf (fsA (itR l s) n) x.Dur) ?_;iterate 3 refine yb ?_
  refine ChM.step rfl rfl rfl (zw (k:=10) zc83) rfl ?_;refine zb3 9 ⟨[(1,itsA l),(3,.ptr 3 0 0 0),(5,.ptr 5 0 0 0),(6,.ptr 6 0 0 0),(8,.ptr 8 0 0 0),(9,iv (s.From+(n:Int))),(10,.ptr 10 0 0 0),(11,iv (addE (fsA (itR l s) n) x.Dur))],[(3,.box (tmE u) 83),(5,.box (smE s) 317),(6,.box [iv 0,iv 0] 83),(8,.box (tmE (fsA (itR l s) n)) 83),(10,.box (tmE (addV (fsA (itR l s) n) x.Dur)) 83)]⟩ (λQ U=>?_) (λQ U=>?_) ?_
  ·refine kI ?_;refine ya ?_;exact kR yg U
  ·refine kI ?_;(iterate 2 refine ya ?_);exact kR yg U
  refine gd ?_ ?_<;>intro xT
  ·rw[j3 xT]at J;have V:=ztM (u:=u) J xT;have hE:=V.1;have T:=V.2;refine gq ?_;refine yD ty83 ?_ ?_;all_goals(first|exact zE hE|exact zE T)
  refine gq ?_;refine yo (n+1) (hJ:=by exact⟨by omega,by rw[v8,J,j4 xT]⟩) (hI:=bC (by(repeat'(first|exact True.intro|(refine And.intro ⟨_,rfl,?_⟩ ?_;(first|exact kU _|exact bG _|exact kT _|(refine kB ?_;simp;done)|(refine kB ?_;congr 1;omega)|(refine kB ?_;dsimp only;congr 1;omega)|(refine kB (j6 (AV.int _) ?_);omega)|exact kO _|exact kZ (by assumption)|(refine kV ?_;congr 1;omega)|(refine kV ?_;congr 1;simp only[cond_true,cond_false];omega)))))) (by(repeat'(first|exact True.intro|(refine And.intro ⟨_,rfl,?_⟩ ?_;(first|exact kT _|exact kZ (by assumption)|exact kV (j6 (λz=>Blk.box z 83) H)|exact kV (j6 (λz=>Blk.box z 83) E)))))))
 ·have hn:n=(itR l s).length:=by omega
  subst hn;have hA:cnA l s=((fsA (itR l s) (itR l s).length),0):=by rw[x2,wB (by unfold drL;simp)];unfold sumF;rfl
  have N:=zxO hA;refine gd ?_ ?_<;>intro u2
  ·have hx:=zlU (l:=l) (i:=s.Left) (by omega) lf;apply yf;refine yQ [12,43,44,45,46,47,48,49,50,51,52,53] [0,0,0,4,14,30,62,127,255,511,511,0,3071,8191] mo ?_;(iterate 7 refine yb ?_);refine yI (zbj (fsA (itR l s) (itR l s).length) (itg l s.Left).After) ?_;(iterate 3 refine yb ?_);refine ChM.step rfl rfl rfl (zw (k:=12) zc83) rfl ?_;refine zb3 10 ⟨[(1,itsA l),(3,.ptr 3 0 0 0),(5,.ptr 5 0 0 0),(6,.ptr 6 0 0 0),(8,.ptr 8 0 0 0),(12,.ptr 12 0 0 0),(13,iv (lsE (fsA (itR l s) (itR l s).length) (itg l s.Left).After))],[(3,.box (tmE u) 83),(5,.box (smE s) 317),(6,.box [iv 0,iv 0] 83),(8,.box (tmE (fsA (itR l s) (itR l s).length)) 83),(12,.box (tmE (if lsE (fsA (itR l s) (itR l s).length) (itg l s.Left).After=0 then subV (fsA (itR l s) (itR l s).length) (itg l s.Left).After else tmZ)) 83)]⟩ (λQ U=>?_) (λQ U=>?_) ?_
   ·refine kI ?_;refine ya ?_;exact kR yg U
   ·refine kI ?_;(iterate 2 refine ya ?_);exact kR yg U
   refine gd ?_ ?_<;>intro I
   ·rw[zr9 (by omega) I]at N;have V:=zsa (u:=u) (ztN N I) I;have hE:=V.1;have T:=V.2;refine gq ?_;refine yD ty83 ?_ ?_;all_goals(first|exact zE hE|exact zE T)
   rw[zr8 (by omega) I]at N;have Z:=zr6 N;refine gd ?_ ?_<;>intro u1
   ·have hx:=zlU (l:=l) (i:=s.Right) (by omega) rt;apply yf;refine yQ [14,62,63,64,65,66,67,68,69,70,71,72] [0,0,0,4,14,30,62,127,255,511,511,0,3071,8191] mo ?_;(iterate 7 refine yb ?_);refine yI (zbj (if lsE (fsA (itR l s) (itR l s).length) (itg l s.Left).After=0 then subV (fsA (itR l s) (itR l s).length) (itg l s.Left).After else tmZ) (itg l s.Right).Before) ?_;(iterate 3 refine yb ?_);refine ChM.step rfl rfl rfl (zw (k:=14) zc83) rfl ?_;refine zb3 10 ⟨[(1,itsA l),(3,.ptr 3 0 0 0),(5,.ptr 5 0 0 0),(6,.ptr 6 0 0 0),(8,.ptr 8 0 0 0),(14,.ptr 14 0 0 0),(15,iv (lsE (if lsE (fsA (itR l s) (itR l s).length) (itg l s.Left).After=0 then subV (fsA (itR l s) (itR l s).length) (itg l s.Left).After else tmZ) (itg l s.Right).Before))],[(3,.box (tmE u) 83),(5,.box (smE s) 317),(6,.box [iv 0,iv 0] 83),(8,.box (tmE (if lsE (fsA (itR l s) (itR l s).length) (itg l s.Left).After=0 then subV (fsA (itR l s) (itR l s).length) (itg l s.Left).After else tmZ)) 83),(14,.box (tmE (if lsE (if lsE (fsA (itR l s) (itR l s).length) (itg l s.Left).After=0 then subV (fsA (itR l s) (itR l s).length) (itg l s.Left).After else tmZ) (itg l s.Right).Before=0 then subV (if lsE (fsA (itR l s) (itR l s).length) (itg l s.Left).After=0 then subV (fsA (itR l s) (itR l s).length) (itg l s.Left).After else tmZ) (itg l s.Right).Before else tmZ)) 83)]⟩ (λQ U=>?_) (λQ U=>?_) ?_
    ·refine kI ?_;refine ya ?_;exact kR yg U
    ·refine kI ?_;(iterate 2 refine ya ?_);exact kR yg U
    refine gd ?_ ?_<;>intro x4
    ·rw[zr9 (by omega) x4]at Z;have V:=zsa (u:=u) Z x4;have hE:=V.1;have T:=V.2;refine gq ?_;refine yD ty83 ?_ ?_;all_goals(first|exact zE hE|exact zE T)
    rw[zr8 (by omega) x4]at Z;have V:=zpo (u:=u) Z;have hE:=V.1;have T:=V.2;refine gc (zaJ (if lsE (if lsE (fsA (itR l s) (itR l s).length) (itg l s.Left).After=0 then subV (fsA (itR l s) (itR l s).length) (itg l s.Left).After else tmZ) (itg l s.Right).Before=0 then subV (if lsE (fsA (itR l s) (itR l s).length) (itg l s.Left).After=0 then subV (fsA (itR l s) (itR l s).length) (itg l s.Left).After else tmZ) (itg l s.Right).Before else tmZ) u) ?_;refine yD ty83 ?_ ?_;all_goals(first|exact zE hE|exact zE T)
   ·rw[zr7 (by omega)]at Z;have V:=zpo (u:=u) Z;have hE:=V.1;have T:=V.2;refine gc (zaJ (if lsE (fsA (itR l s) (itR l s).length) (itg l s.Left).After=0 then subV (fsA (itR l s) (itR l s).length) (itg l s.Left).After else tmZ) u) ?_;refine yD ty83 ?_ ?_;all_goals(first|exact zE hE|exact zE T)
  ·rw[zr7 (by omega)]at N;have Z:=zr6 N;refine gd ?_ ?_<;>intro k5
   ·have hx:=zlU (l:=l) (i:=s.Right) (by omega) rt;apply yf;refine yQ [14,62,63,64,65,66,67,68,69,70,71,72] [0,0,0,4,14,30,62,127,255,511,511,0,3071,8191] mo ?_;(iterate 7 refine yb ?_);refine yI (zbj (fsA (itR l s) (itR l s).length) (itg l s.Right).Before) ?_;(iterate 3 refine yb ?_);refine ChM.step rfl rfl rfl (zw (k:=14) zc83) rfl ?_;refine zb3 10 ⟨[(1,itsA l),(3,.ptr 3 0 0 0),(5,.ptr 5 0 0 0),(6,.ptr 6 0 0 0),(8,.ptr 8 0 0 0),(14,.ptr 14 0 0 0),(15,iv (lsE (fsA (itR l s) (itR l s).length) (itg l s.Right).Before))],[(3,.box (tmE u) 83),(5,.box (smE s) 317),(6,.box [iv 0,iv 0] 83),(8,.box (tmE (fsA (itR l s) (itR l s).length)) 83),(14,.box (tmE (if lsE (fsA (itR l s) (itR l s).length) (itg l s.Right).Before=0 then subV (fsA (itR l s) (itR l s).length) (itg l s.Right).Before else tmZ)) 83)]⟩ (λQ U=>?_) (λQ U=>?_) ?_
    ·refine kI ?_;refine ya ?_;exact kR yg U
    ·refine kI ?_;(iterate 2 refine ya ?_);exact kR yg U
    refine gd ?_ ?_<;>intro x3
    ·rw[zr9 (by omega) x3]at Z;have V:=zsa (u:=u) Z x3;have hE:=V.1;have T:=V.2;refine gq ?_;refine yD ty83 ?_ ?_;all_goals(first|exact zE hE|exact zE T)
    rw[zr8 (by omega) x3]at Z;have V:=zpo (u:=u) Z;have hE:=V.1;have T:=V.2;refine gc (zaJ (if lsE (fsA (itR l s) (itR l s).length) (itg l s.Right).Before=0 then subV (fsA (itR l s) (itR l s).length) (itg l s.Right).Before else tmZ) u) ?_;refine yD ty83 ?_ ?_;all_goals(first|exact zE hE|exact zE T)
   ·rw[zr7 (by omega)]at Z;have V:=zpo (u:=u) Z;have hE:=V.1;have T:=V.2;refine gc (zaJ (fsA (itR l s) (itR l s).length) u) ?_;refine yD ty83 ?_ ?_;all_goals(first|exact zE hE|exact zE T)
set_option maxHeartbeats 4000000 in
def zaC(m:Mn)(k:Int)(l:List Ite)(h0:-9223372036854775808<=k)(h1:k<=9223372036854775807)(hl:l.length<=1000000):Fn prog 287 [mnA m,iv k,itsA l] (.tup [smsA (segV m k l),iv (segE m k l)]):=by
 have hok:=zld k l;have v9:=zAz k l;have v8:=zeM l (bds k l);have x4:=zqw k l;refine kC func287 ntmps287 (λg w d=>?_);refine gc (zc0 m k) ?_;refine gd ?_ ?_<;>intro N
 ·have hE:segE m k l=unE m k:=by unfold segE;rw[j3 N]
  have Z:[]=segV m k l:=by unfold segV;rw[j3 (by rw[hE];exact N)]
  apply ye;refine yq ?_;refine kE ?_;refine k8 (yd (ts:=[(6,smsA []),(7,iv (unE m k))]) (hs:=[])) ?_;refine yh ?_ ?_;all_goals(first|(rw[←Z];done)|exact zE hE|exact j6 (λz=>smsA z) Z|(rw[←Z];rfl))
 have hU:unE m k=0:=N;refine gc (zcC l (by omega)) ?_;refine gd ?_ ?_<;>intro U
 ·have hE:segE m k l=ckIE l:=by unfold segE;rw[j4 hU,j3 U]
  have Z:[]=segV m k l:=by unfold segV;rw[j3 (by rw[hE];exact U)]
  apply ye;refine yq ?_;refine kE ?_;refine k8 (yd (ts:=[(6,smsA []),(7,iv (ckIE l))]) (hs:=[])) ?_;refine yh ?_ ?_;all_goals(first|(rw[←Z];done)|exact zE hE|exact j6 (λz=>smsA z) Z|(rw[←Z];rfl))
 have hK:ckIE l=0:=U;have hP:=zcZ hK;have H:∀x∈l,0<=x.Cut:=λx hx=>(zhs (hP x hx)).1.2.2.1
 have J:segE m k l=segX (unT m k) l (sgs0 l (bds k l)):=by unfold segE;rw[j4 hU,j4 hK]
 have v5:=zAx (unT m k) l (sgs0 l (bds k l));refine gq ?_;refine yM (zeP k l hl H) ?_;refine ya ?_;apply yG;refine yi ?_;iterate 2 apply yf
 refine kJ (yE smE 317 7 11 200 rfl rfl) ?_;apply yj;refine yi ?_;apply kA;refine zV (λn=>[(2,itsA l),(8,.ptr 8 0 0 0),(10,.sl brE (bdsT k l)),(11,.own 200),(12,iv (n:Int))]) (λn=>[(8,.box (tmE (unT m k)) 83),(200,.row smE (sgM (unT m k) l (sgs0 l (bds k l)) n) 317 7)]) (λn=>n<=(sgs0 l (bds k l)).length/\segX (unT m k) l (sgs0 l (bds k l))=segX (unT m k) l ((sgs0 l (bds k l)).drop n)) ((sgs0 l (bds k l)).length) (λn hk=>?_) (hJ:=by exact⟨by omega,rfl⟩);obtain⟨v4,T⟩:=hk;refine gd ?_ ?_<;>intro v3
 ·obtain⟨b,hb⟩:∃b,(bds k l)[n]? =some b:=⟨_,lgg (by omega)⟩;obtain⟨c,hc⟩:∃c,(bds k l)[n+1]? =some c:=⟨_,lgg (by omega)⟩;have hs:=ziT l (bds k l) n b c hb hc;have v1:(bdsT k l)[(n:Int).toNat]? =some (bdT b):=by rw[zpp,wC,hb];rfl
  have U:(bdsT k l)[((n:Int)+1).toNat]? =some (bdT c):=by rw[zpp,show((n:Int)+1).toNat=n+1 by omega,hc];rfl
  have x3:b.item<l.length:=zvD hb;have x2:c.item<l.length:=zvD hc;have V:⟨b.next,bdF c,hdI l b,hdI l c,decide ((n:Int)+2=((bdsT k l).length:Int)),⟨0,0⟩⟩=sg0 l b c:=by unfold sg0;rw[ztQ hc (n:=n) (by omega),x4]
  have x1:=hok.all _ (j5 hs);have x0:SgB l.length ⟨b.next,bdF c,hdI l b,hdI l c,decide ((n:Int)+2=((bdsT k l).length:Int)),⟨0,0⟩⟩:=by rw[V];exact x1.b
  have v0:=ztO (unT m k) l (sgs0 l (bds k l)) n;have w2:=zAy (u:=unT m k) (l:=l) hs;rw[←V]at w2;refine gq ?_;refine yQ [13,43,44,45,46,47,48,49,50,51,52,53,54,55,56,57,58,59,60,61,62,63,64,65,66,67,68,69,70,71,72] [0,0,3,7,15,0,0,64,224,480,992,0,0,0,12288,28672,63488,0,0,0,524288,1835008,3932160,8386560,0,16777216,0,67108864,251658240,536870911,0,2147483647] mo ?_;iterate 16 refine yb ?_
  refine yI (zc1 l b x3) ?_;iterate 6 refine yb ?_
  refine yI (zc1 l c x2) ?_;iterate 6 refine yb ?_
  refine ChM.step rfl rfl rfl (zw (k:=13) zsf) rfl ?_;refine yx ?_;refine gc (zfQ (unT m k) l ⟨b.next,bdF c,hdI l b,hdI l c,decide ((n:Int)+2=((bdsT k l).length:Int)),⟨0,0⟩⟩ x0 hl) ?_;refine gd ?_ ?_<;>intro Q
  ·have E:=zqJ Q;have hE:segE m k l=cnE (unT m k) l ⟨b.next,bdF c,hdI l b,hdI l c,decide ((n:Int)+2=((bdsT k l).length:Int)),⟨0,0⟩⟩:=by rw[J,T,zdS hs,←V,E,j3 Q]
   have Z:[]=segV m k l:=by unfold segV;rw[j3 (by rw[hE];exact Q)]
   apply ye;refine yq ?_;refine kE ?_;refine k8 (yd (ts:=[(6,smsA []),(7,iv (cnE (unT m k) l ⟨b.next,bdF c,hdI l b,hdI l c,decide ((n:Int)+2=((bdsT k l).length:Int)),⟨0,0⟩⟩))]) (hs:=[])) ?_;refine yh ?_ ?_;all_goals(first|(rw[←Z];done)|exact zE hE|exact j6 (λz=>smsA z) Z|(rw[←Z];rfl))
  have xT:cnE (unT m k) l ⟨b.next,bdF c,hdI l b,hdI l c,decide ((n:Int)+2=((bdsT k l).length:Int)),⟨0,0⟩⟩=0:=Q;apply yl;apply yf;apply ye;iterate 3 refine ya ?_
  refine kG 3 ?_;refine yn ?_;iterate 3 refine kF ?_
  refine gf ?_ ?_<;>intro I
  ·have E:segR (unT m k) l ⟨b.next,bdF c,hdI l b,hdI l c,decide ((n:Int)+2=((bdsT k l).length:Int)),⟨0,0⟩⟩=14:=by unfold segR;rw[j4 xT,j4 ⟨jD I.1,I.2⟩]
   have hE:segE m k l=14:=by rw[J,T,zdS hs,←V,E,j3 (by decide)]
   have Z:[]=segV m k l:=by unfold segV;rw[j3 (by rw[hE];decide)]
   apply ye;refine yL ?_;refine kE ?_;refine k8 (yd (ts:=[(6,smsA []),(7,iv 14)]) (hs:=[])) ?_;refine yh ?_ ?_;all_goals(first|(rw[←Z];done)|exact zE hE|exact j6 (λz=>smsA z) Z|(rw[←Z];rfl))
  have E:segR (unT m k) l ⟨b.next,bdF c,hdI l b,hdI l c,decide ((n:Int)+2=((bdsT k l).length:Int)),⟨0,0⟩⟩=0:=by unfold segR;rw[j4 xT,j3 (by intro hh;rcases I with h|h;(exact of_decide_eq_false hh.1 h);exact hh.2 h)]
  refine gq ?_;refine yz smE [segW (unT m k) l ⟨b.next,bdF c,hdI l b,hdI l c,decide ((n:Int)+2=((bdsT k l).length:Int)),⟨0,0⟩⟩] ?_;refine gq ?_;refine yo (n+1) (hJ:=by exact⟨by omega,by rw[T,zdS hs,←V,j4 E]⟩) (hI:=yg)
 ·have hn:n=(sgs0 l (bds k l)).length:=by omega
  subst hn;have hE:segE m k l=0:=by rw[J,T,wO];rfl
  have Z:sgM (unT m k) l (sgs0 l (bds k l)) (sgs0 l (bds k l)).length=segV m k l:=by unfold segV;rw[j4 hE,ztP]
  apply kK;apply yf;refine kJ (k9 (k:=200) rfl) ?_;apply yj;refine yq ?_;refine kE ?_;skip;refine yh ?_ ?_;all_goals(first|(rw[←Z];done)|exact zE hE|exact j6 (λz=>smsA z) Z|(rw[←Z];rfl))
end Go.Rse
