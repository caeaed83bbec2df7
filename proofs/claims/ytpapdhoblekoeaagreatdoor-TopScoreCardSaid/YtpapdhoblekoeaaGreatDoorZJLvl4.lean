/-
  Walks.
-/
import Derived.Test.YtpapdhoblekoeaaGreatDoorZJColor5
set_option linter.all false
set_option maxHeartbeats 4000000
namespace Go.Rse
open Go Go.Proofs Go.Proofs.Tryz
attribute [local irreducible] Pur yy yu Ex X Fn Imp LeV LeB FnO It yA
section
variable{L:List Ite}{h:Int}{k:Nat}{l:List Ite}{n:Nat}{s:Sgm}{u:Tm}{x:Ite}
def lesE(e h:Int)(t d:Tm):Int:=if e=0/\0<=h then lsE t d else e
def lesT(e h:Int)(t d:Tm):Tm:=if e=0/\0<=h then subV t d else t
theorem zug{t d:Tm}:(cn1 t h d).2=lesE 0 h t d/\((cn1 t h d).2=0->(cn1 t h d).1=lesT 0 h t d):=by
 grind[cn1,lesE,lesT]
def zzn(h:(cnA l s).2=0):
 (cnC l s).2=lesE (lesE (cnA l s).2 s.Left (cnA l s).1 (itg l s.Left).After) s.Right (lesT (cnA l s).2 s.Left (cnA l s).1 (itg l s.Left).After) (itg l s.Right).Before∧
 ((cnC l s).2=0->(cnC l s).1=lesT (lesE (cnA l s).2 s.Left (cnA l s).1 (itg l s.Left).After) s.Right (lesT (cnA l s).2 s.Left (cnA l s).1 (itg l s.Left).After) (itg l s.Right).Before):=by
 grind[cnB,cnC,zug,lesE]
def zxe(h:¬(cnA l s).2=0):cnE u l s=(cnA l s).2/\cnV u l s=tmZ:=by
 simp_all[cnB,cnC,cnE,cnV]
def zxf(h:¬(cnC l s).2=0):cnE u l s=(cnC l s).2/\cnV u l s=tmZ:=by
 simp_all[cnE,cnV]
def zxg(h:(cnC l s).2=0):cnE u l s=divE (cnC l s).1 u/\cnV u l s=divV (cnC l s).1 u:=by
 simp_all[cnE,cnV]
def zB9(hl:∀x∈l,itF x=0):sumE (drL (itR l s))=(cnA l s).2/\sumV (drL (itR l s))=(cnA l s).1:=by
 have hf:∀L:List Tm,(∀t∈L,ckT t=0)->y5 L=0:=by
  intro L
  induction L with
  |nil=>intro _;rfl
  |cons t r ih=>intro h;simp only[y5];rw[j7 (h t ah)];exact ih λx hx=>h x (wA _ hx)
 have h0:y5 (drL (itR l s))=0:=hf _ λt ht=>by
  unfold drL itR at ht;obtain⟨x,hx,rfl⟩:=jS.1 ht;exact(zyV (hl x (List.mem_of_mem_drop (xG hx)))).2.1
 simp_all[sumE,sumV,cnA]
def zrB(h:L[k]? =some x):drL (L.take k)++[x.Dur]=drL (L.take (k+1)):=by
 simp_all[drL,jK]
def zuh{k:Int}(hs:SgOk k l s):((itR l s).length:Int)=s.To-s.From:=by
 unfold itR;have:=hs.f0;have:=hs.ft;have:=hs.tl
 grind
def sgP(u:Tm)(l:List Ite)(L:List Sgm)(n:Nat):List Sgm:=(L.take n).map (segW u l)++L.drop n
def zCa(u:Tm)(l:List Ite)(L:List Sgm):L=sgP u l L 0:=rfl
def zui(u:Tm)(l:List Ite)(L:List Sgm)(n:Nat):(sgP u l L n).length=L.length:=by
 grind[sgP]
def zzo{L:List Sgm}(h:L[n]? =some s):(sgP u l L n)[n]? =some s/\(sgP u l L n).set n (segW u l s)=sgP u l L (n+1):=by
 have hn:=(j5.1 h).1;have hl:((L.take n).map (segW u l)).length=n:=by rw[jD,jO];omega
 grind[sgP,List.set_append_right,List.drop_eq_getElem_cons]
theorem zuj(u:Tm)(l:List Ite)(L:List Sgm):sgP u l L L.length=L.map (segW u l):=by
 simp[sgP]
def zzp(h:¬cnE u l s=0):segR u l s=cnE u l s:=by unfold segR;rw[j8 h]
attribute [local irreducible] sgP subV subE lsE lesE lesT cnA cnC divE divV sumE sumV
def zdD(x:Ite):Fn prog 319 [itA x] (tmA x.After):=by
 refine bB func319 ntmps319 (λg w d=>?_);refine gq ?_;refine bJ (.one (.cellA rfl rfl rfl rfl ty35 (kZ ?_)));rfl
def zdE(x:Ite):Fn prog 320 [itA x] (tmA x.Before):=by
 refine bB func320 ntmps320 (λg w d=>?_);refine gq ?_;refine bJ (.one (.cellA rfl rfl rfl rfl ty35 (kZ ?_)));rfl
def zby(l:List Ite)(h e:Int)(t:Tm)(fp:FuncId)(d1:Ite->Tm)(hf:∀x,Fn prog fp [itA x] (tmA (d1 x)))(hh:h<l.length):FnO prog 318 [iv h,.fn fp [],.ptr 2000000 0 0 0,.ptr 2000001 0 0 0,.ptr 2000002 0 0 0] [(2000000,.box [iv e] 29),(2000001,.box (tmE t) 35),(2000002,.box [itsA l] 411)] [2000000,2000001,2000002] (.tup []) [(2000000,.box [iv (lesE e h t (d1 (itg l h)))] 29),(2000001,.box (tmE (lesT e h t (d1 (itg l h)))) 35),(2000002,.box [itsA l] 411)]:=by
 refine c8 [.ptr 2000000 0 0 0,.ptr 2000001 0 0 0,.ptr 2000002 0 0 0] func318 ntmps318 (λg w d vs=>?_);apply ye;apply yc;iterate 2 refine ya ?_
 refine bI 2 ?_;refine yw ?_;iterate 2 refine bE ?_
 refine gf ?_ ?_<;>intro H
 ·have hE:e=lesE e h t (d1 (itg l h)):=by grind[lesE]
  have K:t=lesT e h t (d1 (itg l h)):=by grind[lesT]
  refine bC ?_;rw[←hE,←K];refine znf.mk [] [] (.inr rfl) (.many ac .nil);all_goals rfl
 have hE:lsE t (d1 (itg l h))=lesE e h t (d1 (itg l h)):=by simp_all[lesE]
 have K:subV t (d1 (itg l h))=lesT e h t (d1 (itg l h)):=by simp_all[lesT]
 refine gq ?_;refine y4 [13,14,15,16,17,18,19,20,21,22,23,24] [0,0,0,4,0,28,60,126,255,511,1023,1023,2047,8191] mo ?_;iterate 7 refine yb ?_
 refine yI (hf (itg l h)) ?_;refine yI (zcx t (d1 (itg l h))) ?_;iterate 3 refine yb ?_
 refine ChM.lt 11 ?_ ?_
 ·refine gd ?_ ?_<;>intro G
  ·have N:(14:Int)=lesE e h t (d1 (itg l h)):=by simp_all[lsE]
   apply yd;refine bF ?_;apply bD;rw[←N,←K];refine znf.mk [] [] (.inl rfl) (.many ac .nil);all_goals rfl
  ·have N:subE t (d1 (itg l h))=lesE e h t (d1 (itg l h)):=by simp_all[lsE]
   apply yf;rw[←N,←K];refine znf.mk [] [] (.inl rfl) (.many ac .nil);all_goals rfl
 ·refine gd ?_ ?_<;>intro E
  ·have N:(14:Int)=lesE e h t (d1 (itg l h)):=by simp_all[lsE]
   apply yd;refine bF ?_;apply bD;rw[←N,←K];refine znf.mk [] [] (.inl rfl) (.many ac .nil);all_goals rfl
  ·have N:subE t (d1 (itg l h))=lesE e h t (d1 (itg l h)):=by simp_all[lsE]
   apply yf;rw[←N,←K];refine znf.mk [] [] (.inl rfl) (.many ac .nil);all_goals rfl
def zei(l:List Ite)(s:Sgm)(u:Tm)(k:Int)(hs:SgOk k l s)(hP:∀x∈l,itF x=0)(hl:l.length<=1000000):Fn prog 266 [.agg [itsA l],smA s,tmA u] (.tup [tmA (cnV u l s),iv (cnE u l s)]):=by
 have f0:=hs.f0;have ft:=hs.ft;have tl:=hs.tl;have x0:=zuh hs;have w2:=zB9 (s:=s) hP;have xT:s.Left<l.length:=by rcases hs.lf with h|h<;>omega
 have x2:s.Right<l.length:=by rcases hs.rt with h|h<;>omega
 have G:Fn prog 317 [tmsA (drL ((itR l s).take (itR l s).length))] (.tup [tmA (cnA l s).1,iv (cnA l s).2]):=by
  grind[znI,drL]
 have v9:[]=drL ((itR l s).take 0):=by rfl
 refine bB func266 ntmps266 (λg w d=>?_);apply yc;iterate 3 refine zl ?_
 refine yP ?_;refine ya ?_;apply yp;refine yk ?_;iterate 2 apply ye
 refine yl (yz tmE 35 2 8 200 rfl rfl) ?_;apply yd;iterate 6 refine ya ?_
 refine yO (zcY rfl rfl rfl zkT znm (λ_=>rfl) aa aa aa) rfl ?_;refine yC ?_;apply kX;refine zvc (λn=>[(3,.ptr 3 0 0 0),(4,.ptr 4 0 0 0),(5,.ptr 5 0 0 0),(6,.ptr 6 0 0 0),(8,.own 200),(20,itsA (itR l s)),(21,iv (itR l s).length),(22,iv (n:Int))]) (λn=>[(3,.box [itsA l] 411),(4,.box (smE s) 403),(5,.box (tmE u) 35),(6,.box [iv 0,iv 0] 35),(200,.row tmE (drL ((itR l s).take n)) 35 2)]) ((itR l s).length) (λn hk=>?_) (h0:=yh);refine gd ?_ ?_<;>intro v8
 ·have x1:=@getX _ (itR l s) n aa;obtain⟨x,hx,v5⟩:=x1;have v4:=zrB hx;have v3:(drL ((itR l s).take n)).length<=1000000:=by unfold drL;simp;omega
  refine gq ?_;refine yH tmE [⟨_,_⟩] ?_;refine gq ?_;refine yr (n+1)
 ·have hn:n=(itR l s).length:=aa
  subst hn;apply bH;apply ye;refine yl (kY (k:=200) rfl) ?_;refine gc G ?_;refine gd ?_ ?_<;>intro K
  ·have hE:=(zxe (u:=u) K).1;have H:=(zxe (u:=u) K).2;apply ye;refine y4 [39,40] [0,0,1,7] mo ?_;(iterate 2 refine yb ?_);refine ChM.lt 1 ?_ ?_
   ·refine gq ?_;refine yR ty35 ?_ ?_;all_goals(first|exact zE hE|exact zE H)
   ·refine gq ?_;refine yR ty35 ?_ ?_;all_goals(first|exact zE hE|exact zE H)
  have N:=zzn K;refine gq ?_;refine y0 [(2000000,12),(2000001,11),(2000002,3)] (zby l s.Left (cnA l s).2 (cnA l s).1 319 (λx=>x.After) zdD xT) ?_;refine gq ?_;refine y0 [(2000000,12),(2000001,11),(2000002,3)] (zby l s.Right (lesE (cnA l s).2 s.Left (cnA l s).1 (itg l s.Left).After) (lesT (cnA l s).2 s.Left (cnA l s).1 (itg l s.Left).After) 320 (λx=>x.Before) zdE x2) ?_;refine gd ?_ ?_<;>intro E
  ·have h0:¬(cnC l s).2=0:=by rw[N.1];exact E
   have hE:=(zxf (u:=u) h0).1;have H:=(zxf (u:=u) h0).2;rw[N.1]at hE;apply ye;refine y4 [52,53] [0,0,1,7] mo ?_;(iterate 2 refine yb ?_);refine ChM.lt 1 ?_ ?_
   ·refine gq ?_;refine yR ty35 ?_ ?_;all_goals(first|exact zE hE|exact zE H)
   ·refine gq ?_;refine yR ty35 ?_ ?_;all_goals(first|exact zE hE|exact zE H)
  have h0:(cnC l s).2=0:=by rw[N.1];exact E
  have hE:=(zxg (u:=u) h0).1;have H:=(zxg (u:=u) h0).2;rw[N.2 h0]at hE H;refine gc (znA (lesT (lesE (cnA l s).2 s.Left (cnA l s).1 (itg l s.Left).After) s.Right (lesT (cnA l s).2 s.Left (cnA l s).1 (itg l s.Left).After) (itg l s.Right).Before) u) ?_;refine yR ty35 ?_ ?_;all_goals grind[setAt,tmE]
def zaW(m:Mn)(k:Int)(l:List Ite)(h0:-9223372036854775808<=k)(h1:k<=9223372036854775807)(hl:l.length<=1000000):Fn prog 235 [mnA m,iv k,itsA l] (.tup [smsA (segV m k l),iv (segE m k l)]):=by
 have hok:=zoz k l;have v4:=zCa (unT m k) l (sgs0 l (bds k l));have w2:=zq0 k l (bds k l).length;rw[jR]at w2;refine bB func235 ntmps235 (λg w d=>?_);refine gc (zfU m k h0 h1) ?_;refine gd ?_ ?_<;>intro K
 ·have hE:segE m k l=unE m k:=by unfold segE;rw[j8 K]
  have H:[]=segV m k l:=by unfold segV;rw[j8 (by rw[hE];exact K)]
  apply yc;refine yo ?_;refine bC ?_;refine yi (yh (ts:=[(6,smsA []),(7,iv (unE m k))]) (hs:=[])) ?_;refine yn ?_ ?_;all_goals grind
 have hU:unE m k=0:=K;refine gc (zfb l aa) ?_;refine gd ?_ ?_<;>intro G
 ·have hE:segE m k l=ckIE l:=by unfold segE;rw[j7 hU,j8 G]
  have H:[]=segV m k l:=by unfold segV;rw[j8 (by rw[hE];exact G)]
  apply yc;refine yo ?_;refine bC ?_;refine yi (yh (ts:=[(6,smsA []),(7,iv (ckIE l))]) (hs:=[])) ?_;refine yn ?_ ?_;all_goals grind
 have hK:ckIE l=0:=G;have hP:=zmm hK;have E:segE m k l=segX (unT m k) l (sgs0 l (bds k l)):=by grind[segE]
 refine gq ?_;refine y0 [(39,39)] (zd2 l k hl) ?_;refine gq ?_
 refine ze8 (ι:=Nat) (λ(n:Nat)=>[(8,.ptr 8 0 0 0),(12,.ptr 12 0 0 0),(13,.own 39),(40,iv (sgs0 l (bds k l)).length),(41,iv (n:Int))]) (λ(n:Nat)=>[(8,.box (tmE (unT m k)) 35),(12,.box [itsA l] 411),(39,.row smE (sgP (unT m k) l (sgs0 l (bds k l)) n) 403 7)]) (λ(n:Nat)=>n<=(sgs0 l (bds k l)).length/\segX (unT m k) l (sgs0 l (bds k l))=segX (unT m k) l ((sgs0 l (bds k l)).drop n)) (λ(n:Nat)=>(sgs0 l (bds k l)).length-n) 0 (λn hk=>?_) (hJ:=by
  simp) (h0:=by exact kW)
 obtain⟨v3,xT⟩:=hk;refine gd ?_ ?_<;>intro v2
 ·obtain⟨s,hs⟩:∃s,(sgs0 l (bds k l))[n]? =some s:=⟨_,lgg aa⟩;have v9:=hok.all s (j6 hs);have v1:=zui (unT m k) l (sgs0 l (bds k l)) n;have x2:=zzo (u:=unT m k) (l:=l) hs;have x1:=x2.1;have v0:=x2.2;have x0:(sgP (unT m k) l (sgs0 l (bds k l)) n)[(n:Int).toNat]? =some s:=ao x1
  refine gq ?_;refine y4 [15,44,45,46,47,48,49,50,51,52,53] [0,0,0,6,14,0,63,127,255,255,0,1535,4095] mo ?_;iterate 4 refine yb ?_
  refine yb ?_ (hs:=by exact zQ rfl rfl x0 rfl rfl TyK.h);refine yb ?_;refine yI (zei l s (unT m k) k v9 hP hl) ?_;iterate 3 refine yb ?_
  refine ChM.step rfl rfl rfl (zd (k:=15) zc35) rfl ?_;refine zar 9 ⟨[(8,.ptr 8 0 0 0),(12,.ptr 12 0 0 0),(13,.own 39),(40,iv (sgs0 l (bds k l)).length),(41,iv (n:Int)),(14,iv (n:Int)),(15,.ptr 15 0 0 0),(16,iv (cnE (unT m k) l s))],[(8,.box (tmE (unT m k)) 35),(12,.box [itsA l] 411),(39,.row smE (sgP (unT m k) l (sgs0 l (bds k l)) n) 403 7),(15,.box (tmE (cnV (unT m k) l s)) 35)]⟩ (λQ hQ=>?_) (λQ hQ=>?_) ?_
  ·refine bF ?_;refine ya ?_;exact yY kW hQ
  ·refine bF ?_;(iterate 2 refine ya ?_);exact yY kW hQ
  refine gd ?_ ?_<;>intro N
  ·have hR:=zzp N;have hE:segE m k l=cnE (unT m k) l s:=by rw[E,xT,ziE hs,hR,j8 N]
   have H:[]=segV m k l:=by unfold segV;rw[j8 (by rw[hE];exact N)]
   apply yc;refine yo ?_;refine bC ?_;refine yi (yh (ts:=[(6,smsA []),(7,iv (cnE (unT m k) l s))]) (hs:=[])) ?_;refine yn ?_ ?_;all_goals grind
  have v8:cnE (unT m k) l s=0:=N;apply yf;apply ye;apply yc;iterate 6 refine ya ?_
  refine bI 6 ?_;refine yw ?_;iterate 3 refine bE ?_
  refine gf ?_ ?_<;>intro v5
  ·have hR:segR (unT m k) l s=14:=by unfold segR;rw[j7 v8,j7 v5]
   have hE:segE m k l=14:=by rw[E,xT,ziE hs,hR,j8 ac]
   have H:[]=segV m k l:=by unfold segV;rw[j8 (by rw[hE];decide)]
   apply yc;refine yC ?_;refine bC ?_;refine yi (yh (ts:=[(6,smsA []),(7,iv 14)]) (hs:=[])) ?_;refine yn ?_ ?_;all_goals grind
  have hR:segR (unT m k) l s=0:=by grind[segR]
  apply yf;apply yd;iterate 5 refine ya ?_
  refine bF (hs:=y6 (n:=2) s (segW (unT m k) l s) rfl rfl x1 (λ_=>rfl) ac rfl rfl rfl ac rfl rfl rfl TyK.h) ?_;refine gq ?_
  refine yr (n+1) (hJ:=by
   grind[ziE]) (hI:=kW)
 ·have hn:n=(sgs0 l (bds k l)).length:=aa
  subst hn;have hE:segE m k l=0:=by rw[E,xT,uD];rfl
  have H:sgP (unT m k) l (sgs0 l (bds k l)) (sgs0 l (bds k l)).length=segV m k l:=by grind[segV,zuj]
  apply bH;apply yc;refine yo ?_;refine bC ?_;refine yi (kY (k:=39) rfl) ?_;refine yn ?_ ?_;all_goals(first|(rw[←H];done)|exact zE hE|exact jA (λz=>smsA z) H|(rw[←H];rfl))
end
section
def sumA:Tm->List Tm->Tm
 |t,[]=>t
 |t,d::r=>sumA (addV t d) r
end
section
variable{L:List Tm}{a:Tm}{k:Int}{l:List Ite}{t:Tm}{x:Ite}
attribute [local irreducible] FnW FnOW
def zmD(d:Tm):∀(L:List Tm)(t:Tm),smF t (L++[d])=smF t L++[addV (sumA t L) d]
 |[],t=>rfl
 |x::r,t=>by
  show addV t x::smF (addV t x) (r++[d])=_;rw[zmD d r];rfl
def zkh(d:Tm):∀(L:List Tm)(t:Tm),sumA t (L++[d])=addV (sumA t L) d
 |[],t=>rfl
 |x::r,t=>by
  show sumA (addV t x) (r++[d])=_;rw[zkh d r];rfl
def zlw:∀(L:List Tm)(t:Tm),(smF t L).length=L.length
 |[],t=>rfl
 |x::r,t=>by simp only[smF,w5,zlw r]
def fsP(l:List Ite)(n:Nat):List Tm:=smF ⟨0,1⟩ ((drL l).take n)
def fsA(l:List Ite)(n:Nat):Tm:=sumA ⟨0,1⟩ ((drL l).take n)
def zCb(l:List Ite):[]=fsP l 0:=by unfold fsP;rw[kT];rfl
def zCc(l:List Ite):[iv 0,iv 1]=tmE (fsA l 0):=by unfold fsA;rw[kT];rfl
def zHG{n:Nat}(h:l[n]? =some x):tmE (addV (fsA l n) x.Dur)=tmE (fsA l (n+1))/\fsP l n++[addV (fsA l n) x.Dur]=fsP l (n+1)/\(fsP l n).length<=n:=by
 have N:(drL l)[n]? =some x.Dur:=by unfold drL;rw[j9,h];rfl
 have ht:(drL l).take (n+1)=(drL l).take n++[x.Dur]:=by rw[jK,N];rfl
 have e1:fsA l (n+1)=addV (fsA l n) x.Dur:=by unfold fsA;rw[ht,zkh]
 refine⟨by rw[e1],?_,?_⟩
 ·unfold fsP fsA;rw[ht,zmD]
 ·unfold fsP;rw[zlw,jO];omega
def zuk(l:List Ite):fsP l l.length=fsL l:=by
 unfold fsP fsL;rw[wE (by unfold drL;simp)]
def zlx(l:List Ite):(fsL l).length=l.length:=by unfold fsL;rw[zlw];unfold drL;simp
def laP(a:Tm)(L:List Tm)(n:Nat):List Tm:=a::(((L.take n).filter λt=>decide (subE a t=0)).map λt=>subV a t)
def zCd(a:Tm)(L:List Tm):[a]=laP a L 0:=by unfold laP;rw[kT];rfl
def zCe{n:Nat}(h:L[n]? =some t):(subE a t=0->laP a L n++[subV a t]=laP a L (n+1))/\(¬subE a t=0->laP a L n=laP a L (n+1))/\(laP a L n).length<=n+1:=by
 unfold laP;have ht:L.take (n+1)=L.take n++[t]:=by rw[jK,h];rfl
 refine⟨λh0=>?_,λh0=>?_,?_⟩
 ·rw[ht,uO];simp[h0]
 ·rw[ht,uO];simp[h0]
 ·simp only[w5,jD];have:=uA (λt=>decide (subE a t=0)) (L.take n);rw[jO]at this;omega
def zul(h:(fsL l).length=0):[]=lasL l:=by
 have:fsL l=[]:=jT h;unfold lasL;rw[this];rfl
def zum(h:(fsL l)[(fsL l).length-1]? =some a):laP a ((fsL l).take (((fsL l).length:Int)-1).toNat) ((fsL l).take (((fsL l).length:Int)-1).toNat).length=lasL l:=by
 rw[show(((fsL l).length:Int)-1).toNat=(fsL l).length-1 by omega];have h1:(fsL l).getLast?=some a:=by rw[List.getLast?_eq_getElem?];exact h
 unfold lasL;rw[h1];unfold laP;rw[jR,List.dropLast_eq_take]
structure SgB(n:Nat)(s:Sgm):Prop where
 f0:0<=s.From
 ft:s.From<=s.To
 tn:s.To<=n
 lf:s.Left<n
 rt:s.Right<n
def SgOk.b{s:Sgm}(h:SgOk k l s):SgB l.length s:=⟨h.f0,h.ft,h.tl,by have:=h.ft;have:=h.tl;rcases h.lf with h|h<;>omega,by rcases h.rt with h|h<;>omega⟩
attribute [local irreducible] fsL fsP fsA lasL laP cmpV addV addE subV subE drL
def zfh(l:List Ite)(hl:l.length<=1000000):Fn prog 349 [itsA l] (tmsA (fsL l)):=by
 have E:=zCb l;have N:=zCc l;refine bB func349 ntmps349 (λg w d=>?_);apply yc;refine ya ?_;apply yp;refine yk ?_;apply ye;refine yl (yz tmE 35 2 3 200 rfl rfl) ?_;apply yd;refine ya ?_;refine yP ?_;refine bF ?_;apply bD;apply ye;apply yc;refine yo ?_;apply kX;refine y9 [3,4,8,9] (λn zz=>(10,iv (n:Int))::zz) [] (λn zz=>(4,.box (tmE (fsA l n)) 35)::(200,.row tmE (fsP l n) 35 2)::zz) l.length (λn hk=>?_) (h0:=by exact c7 (by(repeat'(first|exact True.intro|(refine And.intro ⟨_,rfl,?_⟩ ?_;(first|exact bM _|exact LeV.any _|exact bN _|(refine kZ ?_;simp;done)|(refine kZ ?_;congr 1;omega)|(refine kZ ?_;dsimp only;congr 1;omega)|(refine kZ (jA (AV.int _) ?_);omega)|exact bO _|exact bW ai|(refine bQ ?_;congr 1;omega)|(refine bQ ?_;congr 1;simp only[cond_true,cond_false];omega)))))) (by(repeat'(first|exact True.intro|(refine And.intro ⟨_,rfl,?_⟩ ?_;(first|exact bN _|exact bW ai|exact bQ (jA (λz=>Blk.box z 35) N)|exact bQ (jA (λz=>Blk.box z 35) K)))))));refine gd ?_ ?_<;>intro xT
 ·have H:=@getX _ l n aa;obtain⟨x,hx,x2⟩:=H;have G:=zHG hx;obtain⟨K,x1,x0⟩:=G;refine gc (zaQ (fsA l n) x.Dur) ?_;refine yH tmE [addV (fsA l n) x.Dur] ?_;refine gq ?_;refine yr (n+1) (hI:=c7 (by(repeat'(first|exact True.intro|(refine And.intro ⟨_,rfl,?_⟩ ?_;(first|exact bM _|exact LeV.any _|exact bN _|(refine kZ ?_;simp;done)|(refine kZ ?_;congr 1;omega)|(refine kZ ?_;dsimp only;congr 1;omega)|(refine kZ (jA (AV.int _) ?_);omega)|exact bO _|exact bW ai|(refine bQ ?_;congr 1;omega)|(refine bQ ?_;congr 1;simp only[cond_true,cond_false];omega)))))) (by(repeat'(first|exact True.intro|(refine And.intro ⟨_,rfl,?_⟩ ?_;(first|exact bN _|exact bW ai|exact bQ (jA (λz=>Blk.box z 35) N)|exact bQ (jA (λz=>Blk.box z 35) K)))))))
 ·have hn:n=l.length:=aa
  subst hn;have he:=zuk l;apply bH;apply ye;refine yl (kY (k:=200) rfl) ?_;refine gq ?_;all_goals(first|exact jA (λz=>tmsA z) he|exact zE he)
def zf9(l:List Ite)(hl:l.length<=1000000):Fn prog 350 [itsA l] (tmsA (lasL l)):=by
 have xT:=zlx l;refine bB func350 ntmps350 (λg w d=>?_);refine gc (zfh l hl) ?_;refine gd ?_ ?_<;>intro x2
 ·have he:=zul (l:=l) aa;apply yc;refine yk ?_;refine bC ?_;refine yi (yh (ts:=[(2,tmsA [])]) (hs:=[])) ?_;refine gq ?_;all_goals(first|exact jA (λz=>tmsA z) he|(rw[←he];done))
 obtain⟨a,ha⟩:∃a,(fsL l)[(fsL l).length-1]? =some a:=⟨_,lgg aa⟩;have x1:(fsL l)[((fsL l).length-1:Int).toNat]? =some a:=by rw[show((fsL l).length-1:Int).toNat=(fsL l).length-1 by omega];exact ha
 have x0:=zCd a ((fsL l).take (((fsL l).length:Int)-1).toNat);have w2:((fsL l).take (((fsL l).length:Int)-1).toNat).length<=l.length:=by rw[jO];omega
 refine gq ?_;refine yH tmE [a] ?_;refine gq ?_
 first
  |refine yO (zdT rfl rfl rfl sl48 ty35 aa aa) rfl ?_
  |refine yO (zhD rfl rfl sl48 ty35 (λ_=>rfl) aa aa) rfl ?_
 refine yC ?_;apply kX;refine y9 [4,5,27,28] (λn zz=>(29,iv (n:Int))::zz) [4] (λn zz=>(22,.row tmE (laP a ((fsL l).take (((fsL l).length:Int)-1).toNat) n) 35 2)::zz) (((fsL l).take (((fsL l).length:Int)-1).toNat).length) (λn hk=>?_);refine gd ?_ ?_<;>intro v9
 ·have G:=@getX _ ((fsL l).take (((fsL l).length:Int)-1).toNat) n aa;obtain⟨t,ht,v8⟩:=G;have E:=zCe (a:=a) ht;obtain⟨N,K,v5⟩:=E;refine gc (zcx a t) ?_;refine gd ?_ ?_<;>intro H
  ·have N:=N H;refine gq ?_;refine yH tmE [subV a t] ?_;refine gq ?_;refine yr (n+1) (hI:=kW)
  ·have K:=K H;refine gq ?_;refine yr (n+1) (hI:=kW)
 ·have hn:n=((fsL l).take (((fsL l).length:Int)-1).toNat).length:=aa
  subst hn;have he:=zum ha;apply bH;apply ye;refine yl (kY (k:=22) rfl) ?_;refine gq ?_;all_goals(first|exact jA (λz=>tmsA z) he|exact zE he)
def zbg(l:List Ite)(k:Int)(u:Tm)(b:Nat)(x:Ite):Fn prog 347 [.ept (λ_:Unit=>[.sl itE l,iv k,iv u.N,iv u.D,.val (.map (some b))]) () 0,itA x] (.bool (lgQ u x)):=by
 refine bB func347 ntmps347 (λg w d=>?_);refine gq ?_;refine y4 [5,6,7,8,9,10,11,12,13,14,15,16] [0,1,0,4,12,28,63,127,255,255,511,2047] mo ?_;iterate 6 refine yb ?_
 refine yI (zbB x.Dur u) ?_;iterate 5 refine yb ?_
 refine yD ?_;refine gq ?_;all_goals rfl
def za2(l:List Ite)(k:Int)(u:Tm)(b:Nat)(S:List Tm)(t:Tm)(K:S.length<=2000000):Fn prog 348 [.ept (λ_:Unit=>[.sl itE l,iv k,iv u.N,iv u.D,.val (.map (some b))]) () 0,tmsA S,tmA t] (.bool (rcQ u S t)):=by
 refine bB func348 ntmps348 (λg w d=>?_);refine gq ?_;refine y4 [7,9,10,11,12,13,14,15,16,17] [0,0,2,6,14,31,63,127,127,0,767,2047] mo ?_;iterate 5 refine yb ?_
 refine yI (zaQ t u) ?_;iterate 3 refine yb ?_
 refine ChM.step rfl rfl rfl (zd (k:=7) zc35) rfl ?_;refine ChM.lt 8 ?_ ?_
 ·refine bF ?_;refine ya ?_;apply yp;iterate 2 refine ya ?_
  refine bI 2 ?_;refine gq ?_;refine bT (zZ S (addV t u) aa) ?_;refine ge ?_;all_goals rfl
 ·refine bF ?_;iterate 2 refine ya ?_
  apply yp;iterate 2 refine ya ?_
  refine bI 2 ?_;refine gq ?_;refine bT (zZ S (addV t u) aa) ?_;refine ge ?_;all_goals rfl
end
section
variable{P:Program}{T:TypeId}{h i k:Int}{l:List Ite}{n r:Nat}{s:Sgm}
attribute [local irreducible] FnW FnOW
def zrC(l:List Ite):(lasL l).length<=l.length:=by
 have h:=zlx l;unfold lasL;cases N:(fsL l).getLast? with
 |none=>simp
 |some a=>
  simp only[w5,jD];have:=uA (λt=>decide (subE a t=0)) (fsL l).dropLast;rw[List.length_dropLast]at this;have:(fsL l)≠[]:=λe=>by rw[e]at N;simp at N
  have:=uZ.2 this;omega
def zfx(h0:0<=i)(h:i<l.length):l[i.toNat]? =some (itg l i):=by
 unfold itg;rw[jB,lgg aa];rfl
def zzq(h1:(itg l h).Value=k)(N:h+1<l.length)(G:(itg l h).Cut<=0)(K:(itg l (h+1)).Color=false)(H:(itg l (h+1)).Value=k):blQ k l h=true:=by
 unfold blQ;rw[wD h1,wD N,wB (show¬0<(itg l h).Cut by omega),K,wD H];rfl
def zzr(N:(¬(itg l h).Value=k\/(l.length:Int)<=h+1)\/0<(itg l h).Cut):blQ k l h=false:=by
 unfold blQ;rcases N with(N|N)|N
 ·rw[wB N];rfl
 ·rw[wB (show¬h+1<(l.length:Int)by omega)];simp
 ·rw[wD N];simp
def zzs(N:(itg l (h+1)).Color=true\/¬(itg l (h+1)).Value=k):blQ k l h=false:=by
 unfold blQ;rcases N with N|N
 ·rw[N];simp
 ·rw[wB N];simp
def zCf(h:s.From=s.To\/s.Free=true):(decide (s.From=s.To)||s.Free)=true:=by
 rcases h with h|h
 ·rw[wD h];rfl
 ·rw[h];simp
def zCg(h:¬s.From=s.To/\s.Free=false):(decide (s.From=s.To)||s.Free)=false:=by
 rw[wB h.1,h.2];rfl
def tbL(f w p a t:Bool):List (List Bool):=[[true,f,f],[false,w&&p,false],[false,!f&&a,false],[false,false,!f&&p&&a],[false,false,!f&&t]]
def tbV(f w p a t:Bool)(k:Nat)(r:Nat):Bool:=((tbL f w p a t).getD k []).getD r false
abbrev tbA(f w p a t:Bool):List AV:=[.bool true,.bool f,.bool f,.bool false,.bool (w&&p),.bool false,.bool false,.bool (!f&&a),.bool false,.bool false,.bool false,.bool (!f&&p&&a),.bool false,.bool false,.bool (!f&&t)]
def zzt(f w p a t:Bool){k:Nat}(h:k<5):((tbA f w p a t).drop ((k:Int).toNat*3)).take 3=[.bool (tbV f w p a t k 0),.bool (tbV f w p a t k 1),.bool (tbV f w p a t k 2)]:=by
 have:k=0\/k=1\/k=2\/k=3\/k=4:=aa
 rcases this with rfl|rfl|rfl|rfl|rfl<;>rfl
def zCh(f w p a t:Bool){k:Nat}(h:k<5){r:Int}(h0:0<=r)(K:r<3):([.bool (tbV f w p a t k 0),.bool (tbV f w p a t k 1),.bool (tbV f w p a t k 2)]:List AV)[0*0+(0+r.toNat*1)]? =some (.bool (tbV f w p a t k r.toNat)):=by
 have h1:k=0\/k=1\/k=2\/k=3\/k=4:=aa
 have N:r=0\/r=1\/r=2:=aa
 rcases h1 with rfl|rfl|rfl|rfl|rfl<;>rcases N with rfl|rfl|rfl<;>rfl
def alP(f w p a t:Bool)(r:Nat):Nat->List Int
 |0=>[]
 |k+1=>alP f w p a t r k++if tbV f w p a t k r=true\/(k=0/\f=true)then[(k:Int)]else[]
def zCi{f w p a t:Bool}(h:tbV f w p a t n r=true\/((n:Int)=0/\f=true)):alP f w p a t r n++[(n:Int)]=alP f w p a t r (n+1):=by
 show _=_++_;rw[j7 (by rcases h with h|⟨h,N⟩;exact .inl h;exact .inr ⟨aa,N⟩)]
def zCj{f w p a t:Bool}(h:tbV f w p a t n r=false/\(¬(n:Int)=0\/f=false)):alP f w p a t r n=alP f w p a t r (n+1):=by
 show _=_++_;rw[j8 (λN=>by rcases N with N|⟨N,H⟩;(rw[h.1]at N;cases N);(rcases h.2 with K|K;(exact K aa);(rw[K]at H;cases H))),wQ]
def zoX(f w p a t:Bool)(r:Nat):∀k,(alP f w p a t r k).length<=k
 |0=>jG _
 |k+1=>by
  have:=zoX f w p a t r k;rw[show alP f w p a t r (k+1)=alP f w p a t r k++(if tbV f w p a t k r=true\/(k=0/\f=true)then[(k:Int)]else[])from rfl,jJ];split<;>simp<;>omega
def zun(p a t:Bool):alP s.Free (decide (s.Count.D=1)) p a t (s.Count.N%3).toNat 5=alR p a t s:=by
 have K:=vH s.Count.N (show(3:Int)≠0 by omega);have H:=uN s.Count.N (show(0:Int)<3 by omega);unfold alR;generalize s.Count.N%3=r at*
 have hr:r=0\/r=1\/r=2:=aa
 have G:∀w:Bool,w=decide (s.Count.D=1)->(s.Count.D=1↔w=true):=λw e=>by rw[e];simp
 have:=G _ rfl;generalize decide (s.Count.D=1)=w at*
 simp only[this];generalize s.Free=f at*
 rcases hr with rfl|rfl|rfl<;>cases f<;>cases w<;>cases p<;>cases a<;>cases t<;>rfl
def zrD:mpOk prog 412 3 4:=⟨ae,_,Tryz.underlying3⟩
def zoY:∃d,prog.underlying 3=some (.int d)/\d=.i64:=⟨_,Tryz.underlying3,rfl⟩
def zrE(h:(P.info? T).bind (·.zero)=some (.bool false)):∃z i,P.info? T=some i/\i.zero=some z/\∀I,RV I noNames (.bool false) z:=by
 cases hi:P.info? T with
 |none=>simp[hi]at h
 |some i=>exact⟨.bool false,i,rfl,by simpa[hi]using h,λI=>.bool _⟩
def zrF:∃z i,prog.info? 4=some i/\i.zero=some z/\∀I,RV I noNames (AV.bool false) z:=zrE ze4
attribute [local irreducible] fsL fsP fsA lasL laP cmpV addV addE subV subE drL
def zdi(l:List Ite)(k:Int)(u:Tm)(b:Nat)(L:List (Int×Bool))(s:Sgm)(hs:SgB l.length s)(hl:l.length<=1000000):FnW prog 322 [.ept (λ_:Unit=>[.sl itE l,iv k,iv u.N,iv u.D,.val (.map (some b))]) () 0,smA s] (.bool (poQ u k l L s)) (zjI b (λi:Int=>.int .i64 i) AV.bool L):=by
 have f0:=hs.f0;have ft:=hs.ft;have tn:=hs.tn;have lf:=hs.lf;have K:(itR l s).length<=1000000:=by unfold itR;simp;omega
 have xT:=zlx (itR l s);refine FnW.go func322 ntmps322 (λg w d hH H=>?_);refine gd ?_ ?_<;>intro G
 ·have hE:poQ u k l L s=false:=by unfold poQ;rw[wD G];rfl
  refine gq ?_;all_goals rw[hE]
 have hx:=zfx (l:=l) (i:=s.Left) aa lf;have hE:poQ u k l L s=((decide ((itg l s.Left).Value<k)||!(mget s.Left L).getD false)&&lgQ u (itg l s.Left)&&rcQ u (fsL (itR l s)) (itg l s.Left).After):=by unfold poQ;rw[wB (show¬s.Left<0 by omega)];rfl
 refine gq ?_;refine y4 [5,9,10,11,12,13,14,15,16,17] [0,1,3,7,15,0,32,127,255,0,1023] mo ?_;iterate 9 refine yb ?_
 refine ChM.step rfl rfl rfl (zd (k:=5) zkS) rfl ?_;refine yD ?_;refine gq ?_;refine y4 [4,18,19,20,21,22,23,24,25,26,27,28,29,30,31,32,33,34,35,36,37,38,39,40,41,42,43,44,45,46,47,48,49,50,51,52,53,54,55,56] [0,1,0,4,12,28,63,127,255,511,1023,2047,255,4351,16383,32767,65535,131071,262143,262143,1048575,2097151,4194303,8388607,8388607,25165823,58720255,125829119,260046847,8388607,545259519,8388607,2155872255,8581545983,17171480575,8388607,34368126975,137438953471,274877906943,549755813887] mo ?_;iterate 8 refine yb ?_
 iterate 6 refine bL ?_
 refine bL ?_ (hs:=by intro E;exact zqv false hH H zrD zoY zrF);refine bL ?_;iterate 2 refine yb ?_
 iterate 2 refine bL ?_
 refine bZ (zbg l k u b (itg l s.Left)) ?_;iterate 2 refine yb ?_
 iterate 10 refine bL ?_
 refine bL ?_ (hs:=by intro E;exact zcY rfl rfl rfl zkT znm (λ_=>rfl) aa aa aa);refine bZ (zfh (itR l s) K) ?_;iterate 2 refine bL ?_
 refine bZ (za2 l k u b (fsL (itR l s)) (itg l s.Left).After aa) ?_;iterate 2 refine yb ?_
 refine yD ?_;refine gq ?_;all_goals rw[hE]
def zdj(l:List Ite)(k:Int)(u:Tm)(b:Nat)(s:Sgm)(hs:SgB l.length s)(hl:l.length<=1000000):Fn prog 323 [.ept (λ_:Unit=>[.sl itE l,iv k,iv u.N,iv u.D,.val (.map (some b))]) () 0,smA s] (.bool (anQ u k l s)):=by
 have f0:=hs.f0;have ft:=hs.ft;have tn:=hs.tn;have rt:=hs.rt;have H:(itR l s).length<=1000000:=by unfold itR;simp;omega
 have v9:=zrC (itR l s);refine bB func323 ntmps323 (λg w d=>?_);refine gd ?_ ?_<;>intro xT
 ·have hE:anQ u k l s=false:=by unfold anQ;rw[wD xT];rfl
  refine gq ?_;all_goals rw[hE]
 have hx:=zfx (l:=l) (i:=s.Right) aa rt;refine gq ?_;refine y4 [5,10,11,12,13,14,15,16,17,18] [0,1,3,7,15,0,32,127,255,0,1023] mo ?_;iterate 9 refine yb ?_
 refine ChM.step rfl rfl rfl (zd (k:=5) zkS) rfl ?_;refine yD ?_;refine gq ?_;refine y4 [19,20,21,22,23,24,25,26,27,28,29,30,31,32,33,34,35,36,37,38,39,40,41,42,43] [0,1,0,4,12,28,63,127,255,511,1023,255,2303,6399,14591,30975,63743,131071,262143,524287,1048575,2097151,4194303,8388607,16777215] mo ?_;iterate 8 refine yb ?_
 iterate 10 refine bL ?_
 iterate 2 refine yb ?_
 iterate 4 refine bL ?_
 refine yb ?_;refine yD ?_;refine gd ?_ ?_<;>intro G
 ·obtain⟨⟨x2,x1⟩,x0⟩:=G;have v8:=zfx (l:=l) (i:=s.Right+1) aa aa;apply ye;refine y4 [6,44,45,46,47,48,49,50,51,52,53] [0,1,3,7,15,0,32,96,255,511,0,2047] mo ?_;iterate 10 refine yb ?_
  refine ChM.step rfl rfl rfl (zd (k:=6) zkS) rfl ?_;refine yD ?_;refine gq ?_;refine y4 [54,55,56,57,58,59,60,61,62,63,64,65] [0,1,3,7,15,31,15,79,207,463,1023,2047] mo ?_;iterate 4 refine yb ?_
  iterate 7 refine bL ?_
  refine yb ?_;refine yD ?_;refine gd ?_ ?_<;>intro K
  ·have E:blQ k l s.Right=true:=zzq x2 x1 x0 K.1 K.2;have hE:anQ u k l s=false:=by unfold anQ;rw[E,wB (show¬s.Right<0 by omega)];rfl
   refine gq ?_;all_goals rw[hE]
  have E:blQ k l s.Right=false:=zzs K;have hE:anQ u k l s=(lgQ u (itg l s.Right)&&rcQ u (lasL (itR l s)) (itg l s.Right).Before):=by unfold anQ;rw[wB (show¬s.Right<0 by omega),E];rfl
  refine gq ?_;refine y4 [4,66,67,68,69,70,71,72,73,74,75,76,77,78,79,80,81,82,83,84,85] [0,0,3,7,15,15,47,111,239,495,15,1039,15,4111,16367,32751,15,65551,262143,524287,1048575] mo ?_;iterate 2 refine yb ?_
  refine yI (zbg l k u b (itg l s.Right)) ?_;refine yb ?_;iterate 10 refine bL ?_
  refine bL ?_ (hs:=by intro w2;exact zcY rfl rfl rfl zkT znm (λ_=>rfl) aa aa aa);refine bZ (zf9 (itR l s) H) ?_;iterate 2 refine bL ?_
  refine bZ (za2 l k u b (lasL (itR l s)) (itg l s.Right).Before aa) ?_;iterate 2 refine yb ?_
  refine yD ?_;refine gq ?_;all_goals rw[hE]
 ·have E:blQ k l s.Right=false:=zzr G;have hE:anQ u k l s=(lgQ u (itg l s.Right)&&rcQ u (lasL (itR l s)) (itg l s.Right).Before):=by unfold anQ;rw[wB (show¬s.Right<0 by omega),E];rfl
  refine gq ?_;refine y4 [4,66,67,68,69,70,71,72,73,74,75,76,77,78,79,80,81,82,83,84,85] [0,0,3,7,15,15,47,111,239,495,15,1039,15,4111,16367,32751,15,65551,262143,524287,1048575] mo ?_;iterate 2 refine yb ?_
  refine yI (zbg l k u b (itg l s.Right)) ?_;refine yb ?_;iterate 10 refine bL ?_
  refine bL ?_ (hs:=by intro w2;exact zcY rfl rfl rfl zkT znm (λ_=>rfl) aa aa aa);refine bZ (zf9 (itR l s) H) ?_;iterate 2 refine bL ?_
  refine bZ (za2 l k u b (lasL (itR l s)) (itg l s.Right).Before aa) ?_;iterate 2 refine yb ?_
  refine yD ?_;refine gq ?_;all_goals rw[hE]
def zga(l:List Ite)(k:Int)(u:Tm)(b:Nat)(s:Sgm)(hs:SgB l.length s)(hl:l.length<=1000000)(k0:-9223372036854775808<=k)(k1:k+1<=9223372036854775807):Fn prog 324 [.ept (λ_:Unit=>[.sl itE l,iv k,iv u.N,iv u.D,.val (.map (some b))]) () 0,smA s] (.bool (atQ u k l s)):=by
 have f0:=hs.f0;have ft:=hs.ft;have tn:=hs.tn;have rt:=hs.rt;refine bB func324 ntmps324 (λg w d=>?_);apply yc;refine zl ?_;refine yk ?_;apply ye;apply yc;iterate 5 refine ya ?_
 refine bI 5 ?_;refine yw ?_;iterate 2 refine bE ?_
 refine gf ?_ ?_<;>intro K
 ·have hE:atQ u k l s=false:=by unfold atQ;rw[zCf K];rfl
  refine gq ?_;all_goals(first|exact zE hE|(rw[hE];unfold ntQ;rfl))
 have hx:=zfx (l:=l) (i:=s.To-1) aa aa;have hE:atQ u k l s=(ntQ u k (itg l (s.To-1))&&(decide (s.Right<0)||decide ((itg l s.Right).Before.N=0))):=by unfold atQ;rw[zCg K];rfl
 refine gq ?_;refine y4 [5,16,17,18,19,20,21,22,23,24,25] [0,1,3,7,15,0,32,96,255,511,0,2047] mo ?_;iterate 10 refine yb ?_
 refine ChM.step rfl rfl rfl (zd (k:=5) zkS) rfl ?_;refine yD ?_;refine gq ?_;refine y4 [6,26,27,28,29,30,31,32,33,34,35,36,37,38,39,40,41,42,43,44,45,46,47,48,49,50,51,52,53,54,55,56,57] [0,1,3,7,15,31,63,127,255,511,1023,2047,4095,8191,16383,32767,16383,81919,212991,475135,999423,2097151,4194303,8388607,16777215,33554431,16777215,83886079,218103807,486539263,1073741823,2147483647,4294967295] mo ?_;iterate 4 refine yb ?_
 iterate 3 refine bL ?_
 iterate 2 refine yb ?_
 iterate 3 refine bL ?_
 iterate 2 refine yb ?_
 iterate 8 refine bL ?_
 iterate 2 refine yb ?_
 iterate 7 refine bL ?_
 iterate 2 refine yb ?_
 refine yD ?_;refine gq ?_;refine y4 [4,58,59,60,61,62,63,64,65,66,67,68,69,70,71,72,73,74,75,76,77] [0,1,3,7,15,31,63,127,255,511,1023,63,2111,8191,16383,32767,65535,131071,262143,524287,1048575] mo ?_;iterate 2 refine yb ?_
 iterate 17 refine bL ?_
 iterate 2 refine yb ?_
 refine yD ?_;refine gq ?_;all_goals(first|exact zE hE|(rw[hE];unfold ntQ;rfl))
def zap(l:List Ite)(k:Int)(u:Tm)(b:Nat)(L:List (Int×Bool))(s:Sgm)(hs:SgB l.length s)(hl:l.length<=1000000)(k0:-9223372036854775808<=k)(k1:k+1<=9223372036854775807)(hN:0<=s.Count.N):FnOW prog 267 [.ept (λ_:Unit=>[.sl itE l,iv k,iv u.N,iv u.D,.val (.map (some b))]) () 0,smA s] intE (alQ u k l L s) 3 1 (zjI b (λi:Int=>.int .i64 i) AV.bool L):=by
 have xT:=vH s.Count.N (show(3:Int)≠0 by omega);have x2:=uN s.Count.N (show(0:Int)<3 by omega);refine FnOW.go func267 ntmps267 (rv:=[.tmp 4]) (λg w d hH x1=>?_);have H:∀st g' a w',Rel (C0 86 d g w) st g' a w'->zjI b (λi:Int=>.int .i64 i) AV.bool L g'.I g'.O w':=λst g' a w' hr=>hH.now rfl x1 hr
 refine gq ?_;refine y4 [7,19,20,21,22,23,24,25,26,27,28,29,30,31,32,33,34,35,36,37,38,39,40,41,42,43,44,45,46,47,48,49,50,51,52,53,54,55,56,57,58,59,60,61,62,63] [0,1,0,4,15,0,32,96,96,480,992,2016,0,4096,12288,29664,62432,62432,259040,521184,1045472,0,2097152,6291456,15201248,31978464,31978464,132641760,266859488,535294944,1072165856,1072165856,4293391328,8588358624,17178293216,0,34359738368,103079215104,249106527200,523984434144,523984434144,2173251875808,4372275131360,8770321642464,17592186044415,0,70368744177663] mo ?_;iterate 7 refine yb ?_
 iterate 2 refine bL ?_
 refine ChM.lg (x:=.bool (poQ u k l L s)) H (zdi l k u b L s hs hl) ?_;iterate 6 refine yb ?_
 iterate 2 refine bL ?_
 refine bZ (zdj l k u b s hs hl) ?_;iterate 6 refine yb ?_
 iterate 2 refine bL ?_
 refine ChM.lg (x:=.bool (poQ u k l L s)) H (zdi l k u b L s hs hl) ?_;iterate 2 refine yb ?_
 iterate 2 refine bL ?_
 refine bZ (zdj l k u b s hs hl) ?_;iterate 6 refine yb ?_
 iterate 2 refine bL ?_
 refine bZ (zga l k u b s hs hl k0 k1) ?_;iterate 3 refine yb ?_
 refine ChM.step rfl rfl rfl (zd (k:=7) zyl) rfl ?_;refine yD ?_;refine bF ?_;apply yp;refine yk ?_;iterate 2 apply ye
 refine yl (yz intE 3 1 8 5 rfl rfl) ?_;apply yd;refine yC ?_;apply kX;refine zvc (λn=>[(3,.ptr 3 0 0 0),(6,iv (s.Count.N%3)),(8,.own 5),(64,.agg (tbA s.Free (decide (s.Count.D=1)) (poQ u k l L s) (anQ u k l s) (atQ u k l s))),(65,iv (n:Int))]) (λn=>[(3,.box (smE s) 403),(5,.row intE (alP s.Free (decide (s.Count.D=1)) (poQ u k l L s) (anQ u k l s) (atQ u k l s) (s.Count.N%3).toNat n) 3 1)]) 5 (λn hk=>?_) (h0:=yh);refine gd ?_ ?_<;>intro v9
 ·have G:n<5:=aa
  have x0:=zzt s.Free (decide (s.Count.D=1)) (poQ u k l L s) (anQ u k l s) (atQ u k l s) G;have K:=zCh s.Free (decide (s.Count.D=1)) (poQ u k l L s) (anQ u k l s) (atQ u k l s) G xT x2;have v8:=zoX s.Free (decide (s.Count.D=1)) (poQ u k l L s) (anQ u k l s) (atQ u k l s) (s.Count.N%3).toNat n;apply yf;apply ye;apply kX;apply yc;refine ya ?_;refine ya (hs:=by exact zO ArK.h TyK.h rfl rfl aa aa x0) ?_;refine yP ?_;refine ya ?_;refine bF ?_;apply yp;refine ya ?_;refine ya (hs:=by exact zhF rfl rfl ArK.h ty4 aa aa) ?_;refine ya (hs:=by exact zan rfl rfl K ty4) ?_;refine bI 3 ?_;refine yw ?_;iterate 6 refine bE ?_
  refine gf ?_ ?_<;>intro E
  ·have w2:=zCi (r:=(s.Count.N%3).toNat) E;refine gq ?_;refine yH intE [_] ?_;refine gq ?_;refine yr (n+1)
  ·have w2:=zCj (r:=(s.Count.N%3).toNat) E;refine gq ?_;refine yr (n+1)
 ·have hn:n=5:=aa
  subst hn;have he:alP s.Free (decide (s.Count.D=1)) (poQ u k l L s) (anQ u k l s) (atQ u k l s) (s.Count.N%3).toNat 5=alQ u k l L s:=zun _ _ _;apply bH;apply yc;refine yC ?_;refine bC ?_;refine⟨.inr rfl,[(4,.own 5)],[],yh,.one (.tmp rfl (kZ rfl))⟩
end
section
variable{i:Nat}{l:List Ite}{x y:Ite}
section
variable{P:Program}{C:Ctx}{st:St}{ty:TypeId}{Q:Exit->St->Prop}{ops:Array Oper}{ms:List Nat}{hid:List Nat}{i m:Nat}{fs:List FactM}{o:Oper}{x:AV}{nb:Option (Nat×Blk)}
def ChM.lo{d:Nat}{α:Type}{enc:α->List AV}{l:List α}{E s:Nat}{f:FuncId}{caps xs:List AV}{fop:Operand}{args:Array Operand}{ts:Array TypeId}(q:Nat)(G:FnOW P f (xs++caps) enc l E s λ_ _ _=>True)(K:∀x,AV.flat.flatL (enc x)=true)(h:ChM P C ops ms st hid Q (i+1) (⟨i,some d,.own q,some (q,.row enc l E s),m,[]⟩::fs))(hm:ms[i]? =some m:=by exact rfl)(ho:ops[i]? =some o:=by exact rfl)(hg:o.guard=none:=by exact rfl)(N:o.dst=some d:=by exact rfl)
 (H:o.op=.call {callee:=.value fop,args:=args,argTypes:=ts}:=by exact rfl)(hf:ev (stV st hid m fs []) fop=some (.fn f caps):=by exact rfl)(hx:evs (stV st hid m fs []) args.toList=some xs:=by exact rfl)(hd:d.blt C.n=true:=by exact rfl):ChM P C ops ms st hid Q i fs:=
 .step hm ho hg (by rw[H];exact zgQ (ι:=Unit) (stF:=λ_=>stV st hid m fs []) (caps:=λ_=>caps) (xs:=λ_=>xs) q (λg a w hr=>zDF Imp.refl hr) (λ_=>G) K (λ_=>hf) (λ_=>hx) (λ_=>bK _)) (by rw[N];exact hd) (by rw[N];exact h)
end
instance:ZcK prog 414 [.nils,.int .i64 0,.int .i64 0,.int .i64 0,.val (.map none)]:=⟨⟨_,zE4,rfl⟩⟩
attribute [local irreducible] FnW FnOW
def set2:(l.set i x).set i y=l.set i y:=by rw[List.set_set]
def zrG(h:l[i]? =some x):(l.set i y)[i]? =some y:=by
 have:=(j5.1 h).1;rw[vF];simp[this]
attribute [local irreducible] addV addE subV subE
def zdk(m:Mn)(k:Int)(l:List Ite)(h0:-9223372036854775808<=k)(h1:k<=9223372036854775807)(hl:l.length<=1000000)(hE:¬segE m k l=0):Fn prog 238 [mnA m,iv k,itsA l] (.tup [.val (.pointer none),smsA [],iv (segE m k l)]):=by
 refine bB func238 ntmps238 (λg w d=>?_);refine gc (zaW m k l h0 h1 hl) ?_;refine gd ?_ ?_<;>intro N
 ·apply yc;refine ya ?_;refine yo ?_;refine bC ?_;refine yi (yh (ts:=[(6,.val (.pointer none)),(7,smsA []),(8,iv (segE m k l))]) (hs:=[])) ?_;refine bJ (.many ac (.cons (.tmp rfl (kZ ?_)) (.cons (.tmp rfl (kZ ?_)) (.cons (.tmp rfl (kZ ?_)) .nil))));all_goals exact zR
 exact absurd N hE
def zF(m:Mn)(k:Int)(l:List Ite)(h0:-9223372036854775808<=k)(h1:k<=9223372036854775807)(hl:l.length<=1000000)(hE:segE m k l=0):FnO prog 238 [mnA m,iv k,itsA l] [] [] (.tup [.ptr 36 0 0 0,smsA (segV m k l),iv 0]) [(36,.box [.own 30,iv k,iv (unT m k).N,iv (unT m k).D,.mp 34] 414),(30,.row itE l 241 12),(34,.mpb (λi:Int=>.int .i64 i) AV.bool [])]:=by
 refine c8 [] func238 ntmps238 (λg w d vs=>?_);refine gc (zaW m k l h0 h1 hl) ?_;refine gd ?_ ?_<;>intro K
 ·exact absurd hE K
 refine gc (zfU m k h0 h1) ?_;refine y4 [6,7,8,29,30,31,32,33,34,35,36,37] [0,1,3,0,0,0,63,127,0,255,1023,2047] mo ?_;refine yb ?_;refine ChM.lo 30 (zai l aa).ow (λ_=>rfl) ?_;iterate 3 refine yb ?_
 refine ChM.step rfl rfl rfl (zaH (k:=34) (λi:Int=>.int .i64 i) AV.bool) rfl ?_;refine yb ?_;refine ChM.step rfl rfl rfl (zhi (k:=36) rfl rfl) rfl ?_;iterate 4 refine yb ?_
 refine yD ?_;apply bD;refine bC ?_;refine znf.mk [(6,.ptr 36 0 0 0),(7,smsA (segV m k l)),(8,iv 0)] [] (.inr rfl) (.many ac (.cons (.tmp rfl (kZ ?_)) (.cons (.tmp rfl (kZ ?_)) (.cons (.tmp rfl (kZ ?_)) .nil))));all_goals rfl
def zdF(l:List Ite)(k:Int)(u:Tm)(L:List (Int×Bool))(i:Nat)(x:Ite)(hx:l[i]? =some x):FnO prog 329 [.ptr 2000001 12 i 0,.ptr 2000001 12 i 10,.ptr 2000003 0 0 0] [(2000003,.box [.ptr 2000000 0 0 0] 406),(2000000,.box [.own 2000001,iv k,iv u.N,iv u.D,.mp 2000002] 414),(2000001,.row itE (l) 241 12),(2000002,.mpb (λi:Int=>.int .i64 i) AV.bool (L))] [2000003,2000000,2000001,2000002] (iv (max (subE x.Dur u) (addE x.After u))) [(2000003,.box [.ptr 2000000 0 0 0] 406),(2000000,.box [.own 2000001,iv k,iv u.N,iv u.D,.mp 2000002] 414),(2000001,.row itE (l.set i (zbn u x)) 241 12),(2000002,.mpb (λi:Int=>.int .i64 i) AV.bool (L))]:=by
 have K:=zrG (y:={x with Dur:=subV x.Dur u}) hx;have G:(l.set i {x with Dur:=subV x.Dur u}).set i (zbn u x)=l.set i (zbn u x):=set2;refine c8 [.ptr 2000003 0 0 0,.ptr 2000000 0 0 0,.own 2000001,.mp 2000002] func329 ntmps329 (λg w d vs=>?_);refine gq ?_;refine y4 [8,9,10,11,12,13,14,15,16,17,18,19,20,21,22] [0,0,2,6,14,0,32,96,224,510,1022,2046,2046,4095,12287,28671,65535] mo ?_;iterate 2 refine yb ?_
 refine yb ?_ (hs:=by exact yg rfl);refine yb ?_;refine yb ?_ (hs:=by exact zB (n:=2) rfl rfl hx rfl rfl ac rfl TyK.h);refine yb ?_;refine yb ?_ (hs:=by exact yg rfl);iterate 2 refine yb ?_
 refine yI (zcx x.Dur u) ?_;iterate 3 refine yb ?_
 refine yb ?_ (hs:=by exact yg rfl);refine yb ?_;refine zar 12 ⟨[(0,.ptr 2000001 12 i 0),(1,.ptr 2000001 12 i 10),(2,.ptr 2000003 0 0 0),(6,iv (subE x.Dur u)),(7,iv 0)],[(1000001,.hold vs [.ptr 2000003 0 0 0,.ptr 2000000 0 0 0,.own 2000001,.mp 2000002]),(2000003,.box [.ptr 2000000 0 0 0] 406),(2000000,.box [.own 2000001,iv k,iv u.N,iv u.D,.mp 2000002] 414),(2000001,.row itE (l.set i {x with Dur:=subV x.Dur u}) 241 12),(2000002,.mpb (λi:Int=>.int .i64 i) AV.bool (L))]⟩ (λQ H=>?_) (λQ H=>?_) ?_
 ·refine bF (hs:=y6 (n:=2) x {x with Dur:=subV x.Dur u} rfl rfl hx (λ_=>rfl) ac rfl rfl rfl ac rfl rfl rfl TyK.h) ?_;refine ya ?_;exact yY kW H
 ·refine bF (hs:=y6 (n:=2) x {x with Dur:=subV x.Dur u} rfl rfl hx (λ_=>rfl) ac rfl rfl rfl ac rfl rfl rfl TyK.h) ?_;iterate 2 refine ya ?_
  exact yY kW H
 refine gq ?_;refine y4 [23,24,25,26,27,28,29,30,31,32,33,34,35] [0,0,2,6,0,16,48,112,254,510,1022,1022,2047,6143,16383] mo ?_;iterate 2 refine yb ?_
 refine yb ?_ (hs:=by exact yg rfl);refine yb ?_ (hs:=by exact zB (n:=2) rfl rfl K rfl rfl ac rfl TyK.h);refine yb ?_;refine yb ?_ (hs:=by exact yg rfl);iterate 2 refine yb ?_
 refine yI (zaQ x.After u) ?_;iterate 3 refine yb ?_
 refine yb ?_ (hs:=by exact yg rfl);refine zar 11 ⟨[(6,iv (subE x.Dur u)),(7,iv (addE x.After u))],[(1000001,.hold vs [.ptr 2000003 0 0 0,.ptr 2000000 0 0 0,.own 2000001,.mp 2000002]),(2000003,.box [.ptr 2000000 0 0 0] 406),(2000000,.box [.own 2000001,iv k,iv u.N,iv u.D,.mp 2000002] 414),(2000001,.row itE ((l.set i {x with Dur:=subV x.Dur u}).set i (zbn u x)) 241 12),(2000002,.mpb (λi:Int=>.int .i64 i) AV.bool (L))]⟩ (λQ H=>?_) (λQ H=>?_) ?_
 ·refine bF (hs:=y6 (n:=2) {x with Dur:=subV x.Dur u} (zbn u x) rfl rfl K (λ_=>rfl) ac rfl rfl rfl ac rfl rfl rfl TyK.h) ?_;refine ya ?_;exact yY kW H
 ·refine bF (hs:=y6 (n:=2) {x with Dur:=subV x.Dur u} (zbn u x) rfl rfl K (λ_=>rfl) ac rfl rfl rfl ac rfl rfl rfl TyK.h) ?_;iterate 2 refine ya ?_
  exact yY kW H
 apply yp;iterate 2 refine ya ?_
 refine ya (hs:=by exact zpI rfl rfl) ?_;refine yk ?_;refine bC ?_;refine zhp (st':=⟨[(5,iv (max (subE x.Dur u) (addE x.After u)))],[(1000001,.hold vs [.ptr 2000003 0 0 0,.ptr 2000000 0 0 0,.own 2000001,.mp 2000002]),(2000003,.box [.ptr 2000000 0 0 0] 406),(2000000,.box [.own 2000001,iv k,iv u.N,iv u.D,.mp 2000002] 414),(2000001,.row itE (l.set i (zbn u x)) 241 12),(2000002,.mpb (λi:Int=>.int .i64 i) AV.bool (L))]⟩) (by first|exact yh|exact kW) ?_;refine znf.mk [(5,iv (max (subE x.Dur u) (addE x.After u)))] [] (.inr rfl) (.one (.tmp rfl (kZ ?_)));all_goals rfl
def zdG(l:List Ite)(k:Int)(u:Tm)(L:List (Int×Bool))(i:Nat)(x:Ite)(hx:l[i]? =some x):FnO prog 329 [.ptr 2000001 12 i 0,.ptr 2000001 12 i 8,.ptr 2000003 0 0 0] [(2000003,.box [.ptr 2000000 0 0 0] 406),(2000000,.box [.own 2000001,iv k,iv u.N,iv u.D,.mp 2000002] 414),(2000001,.row itE (l) 241 12),(2000002,.mpb (λi:Int=>.int .i64 i) AV.bool (L))] [2000003,2000000,2000001,2000002] (iv (max (subE x.Dur u) (addE x.Before u))) [(2000003,.box [.ptr 2000000 0 0 0] 406),(2000000,.box [.own 2000001,iv k,iv u.N,iv u.D,.mp 2000002] 414),(2000001,.row itE (l.set i (zbx u x)) 241 12),(2000002,.mpb (λi:Int=>.int .i64 i) AV.bool (L))]:=by
 have K:=zrG (y:={x with Dur:=subV x.Dur u}) hx;have G:(l.set i {x with Dur:=subV x.Dur u}).set i (zbx u x)=l.set i (zbx u x):=set2;refine c8 [.ptr 2000003 0 0 0,.ptr 2000000 0 0 0,.own 2000001,.mp 2000002] func329 ntmps329 (λg w d vs=>?_);refine gq ?_;refine y4 [8,9,10,11,12,13,14,15,16,17,18,19,20,21,22] [0,0,2,6,14,0,32,96,224,510,1022,2046,2046,4095,12287,28671,65535] mo ?_;iterate 2 refine yb ?_
 refine yb ?_ (hs:=by exact yg rfl);refine yb ?_;refine yb ?_ (hs:=by exact zB (n:=2) rfl rfl hx rfl rfl ac rfl TyK.h);refine yb ?_;refine yb ?_ (hs:=by exact yg rfl);iterate 2 refine yb ?_
 refine yI (zcx x.Dur u) ?_;iterate 3 refine yb ?_
 refine yb ?_ (hs:=by exact yg rfl);refine yb ?_;refine zar 12 ⟨[(0,.ptr 2000001 12 i 0),(1,.ptr 2000001 12 i 8),(2,.ptr 2000003 0 0 0),(6,iv (subE x.Dur u)),(7,iv 0)],[(1000001,.hold vs [.ptr 2000003 0 0 0,.ptr 2000000 0 0 0,.own 2000001,.mp 2000002]),(2000003,.box [.ptr 2000000 0 0 0] 406),(2000000,.box [.own 2000001,iv k,iv u.N,iv u.D,.mp 2000002] 414),(2000001,.row itE (l.set i {x with Dur:=subV x.Dur u}) 241 12),(2000002,.mpb (λi:Int=>.int .i64 i) AV.bool (L))]⟩ (λQ H=>?_) (λQ H=>?_) ?_
 ·refine bF (hs:=y6 (n:=2) x {x with Dur:=subV x.Dur u} rfl rfl hx (λ_=>rfl) ac rfl rfl rfl ac rfl rfl rfl TyK.h) ?_;refine ya ?_;exact yY kW H
 ·refine bF (hs:=y6 (n:=2) x {x with Dur:=subV x.Dur u} rfl rfl hx (λ_=>rfl) ac rfl rfl rfl ac rfl rfl rfl TyK.h) ?_;iterate 2 refine ya ?_
  exact yY kW H
 refine gq ?_;refine y4 [23,24,25,26,27,28,29,30,31,32,33,34,35] [0,0,2,6,0,16,48,112,254,510,1022,1022,2047,6143,16383] mo ?_;iterate 2 refine yb ?_
 refine yb ?_ (hs:=by exact yg rfl);refine yb ?_ (hs:=by exact zB (n:=2) rfl rfl K rfl rfl ac rfl TyK.h);refine yb ?_;refine yb ?_ (hs:=by exact yg rfl);iterate 2 refine yb ?_
 refine yI (zaQ x.Before u) ?_;iterate 3 refine yb ?_
 refine yb ?_ (hs:=by exact yg rfl);refine zar 11 ⟨[(6,iv (subE x.Dur u)),(7,iv (addE x.Before u))],[(1000001,.hold vs [.ptr 2000003 0 0 0,.ptr 2000000 0 0 0,.own 2000001,.mp 2000002]),(2000003,.box [.ptr 2000000 0 0 0] 406),(2000000,.box [.own 2000001,iv k,iv u.N,iv u.D,.mp 2000002] 414),(2000001,.row itE ((l.set i {x with Dur:=subV x.Dur u}).set i (zbx u x)) 241 12),(2000002,.mpb (λi:Int=>.int .i64 i) AV.bool (L))]⟩ (λQ H=>?_) (λQ H=>?_) ?_
 ·refine bF (hs:=y6 (n:=2) {x with Dur:=subV x.Dur u} (zbx u x) rfl rfl K (λ_=>rfl) ac rfl rfl rfl ac rfl rfl rfl TyK.h) ?_;refine ya ?_;exact yY kW H
 ·refine bF (hs:=y6 (n:=2) {x with Dur:=subV x.Dur u} (zbx u x) rfl rfl K (λ_=>rfl) ac rfl rfl rfl ac rfl rfl rfl TyK.h) ?_;iterate 2 refine ya ?_
  exact yY kW H
 apply yp;iterate 2 refine ya ?_
 refine ya (hs:=by exact zpI rfl rfl) ?_;refine yk ?_;refine bC ?_;refine zhp (st':=⟨[(5,iv (max (subE x.Dur u) (addE x.Before u)))],[(1000001,.hold vs [.ptr 2000003 0 0 0,.ptr 2000000 0 0 0,.own 2000001,.mp 2000002]),(2000003,.box [.ptr 2000000 0 0 0] 406),(2000000,.box [.own 2000001,iv k,iv u.N,iv u.D,.mp 2000002] 414),(2000001,.row itE (l.set i (zbx u x)) 241 12),(2000002,.mpb (λi:Int=>.int .i64 i) AV.bool (L))]⟩) (by first|exact yh|exact kW) ?_;refine znf.mk [(5,iv (max (subE x.Dur u) (addE x.Before u)))] [] (.inr rfl) (.one (.tmp rfl (kZ ?_)));all_goals rfl
end
section
attribute [local irreducible] FnW FnOW
def chA(u:Tm)(s:Sgm)(c:Int)(l:List Ite):List Ite:=if c=1\/c=3 then upI l s.Left (zbn u)else l
def chB(u:Tm)(s:Sgm)(c:Int)(l:List Ite):List Ite:=if c=2\/c=3 then upI (chA u s c l) s.Right (zbx u)else chA u s c l
def zoZ(u:Tm)(s:Sgm)(c:Int)(l:List Ite):(chA u s c l).length=l.length:=by unfold chA;split<;>simp[zeL]
def zuo(u:Tm)(s:Sgm)(c:Int)(l:List Ite):(chB u s c l).length=l.length:=by unfold chB;split<;>simp[zeL,zoZ]
def zxh(u:Tm)(s:Sgm)(c:Int)(l:List Ite):chN u s c l=if c=4 then upI (chB u s c l) (s.To-1) dblI else chB u s c l:=rfl
def cEa(u:Tm)(s:Sgm)(c:Int)(l:List Ite):Int:=if c=1\/c=3 then max 0 (max (subE (itg l s.Left).Dur u) (addE (itg l s.Left).After u))else 0
def cEb(u:Tm)(s:Sgm)(c:Int)(l:List Ite):Int:=if c=2\/c=3 then max (cEa u s c l) (max (subE (itg (chA u s c l) s.Right).Dur u) (addE (itg (chA u s c l) s.Right).Before u))else cEa u s c l
def cEc(u:Tm)(s:Sgm)(c:Int)(l:List Ite):Int:=if c=4 then addE (itg (chB u s c l) (s.To-1)).Dur (itg (chB u s c l) (s.To-1)).Dur else cEb u s c l
attribute [local irreducible] addV addE subV subE chA chB chN chL cEa cEb cEc
set_option maxRecDepth 9999 in
def zcw(l:List Ite)(k:Int)(u:Tm)(L:List (Int×Bool))(s:Sgm)(c:Int)(hs:SgB l.length s)(hc:ChOk s c)(hl:l.length<=1000000):FnO prog 269 [.ptr 2000000 0 0 0,smA s,iv c] [(2000000,.box [.own 2000001,iv k,iv u.N,iv u.D,.mp 2000002] 414),(2000001,.row itE (l) 241 12),(2000002,.mpb (λi:Int=>.int .i64 i) AV.bool (L))] [2000000,2000001,2000002] (iv (cEc u s c l)) [(2000000,.box [.own 2000001,iv k,iv u.N,iv u.D,.mp 2000002] 414),(2000001,.row itE (chN u s c l) 241 12),(2000002,.mpb (λi:Int=>.int .i64 i) AV.bool (chL s c L))]:=by
 have f0:=hs.f0;have ft:=hs.ft;have tn:=hs.tn;have lf:=hs.lf;have rt:=hs.rt;have v9:=zoZ u s c l;have v5:=zuo u s c l;refine c8 [.ptr 2000000 0 0 0,.own 2000001,.mp 2000002] func269 ntmps269 (λg w d vs=>?_);apply yc;refine zax ?_;refine zl ?_;refine ya ?_;apply yp;iterate 2 refine ya ?_
 apply yp;refine yk ?_;refine zbm ⟨[(2,iv c),(3,.ptr 3 0 0 0),(4,.ptr 4 0 0 0),(7,.fn 329 [.ptr 3 0 0 0]),(8,iv (cEa u s c l))],[(1000001,.hold vs [.ptr 2000000 0 0 0,.own 2000001,.mp 2000002]),(2000000,.box [.own 2000001,iv k,iv u.N,iv u.D,.mp 2000002] 414),(2000001,.row itE (chA u s c l) 241 12),(2000002,.mpb (λi:Int=>.int .i64 i) AV.bool (L)),(3,.box [.ptr 2000000 0 0 0] 406),(4,.box (smE s) 403)]⟩ (λx0=>?_) ?_
 ·apply yc;iterate 2 refine ya ?_
  refine bI 2 ?_;refine yw ?_;iterate 2 refine bE ?_
  refine gf ?_ ?_<;>intro x1
  ·have xT:=hc.lf x1;have hx:=zfx (l:=l) (i:=s.Left) xT lf;have K:l.set s.Left.toNat (zbn u (itg l s.Left))=chA u s c l:=by unfold chA;rw[j7 x1];rfl
   have G:max 0 (max (subE (itg l s.Left).Dur u) (addE (itg l s.Left).After u))=cEa u s c l:=by unfold cEa;rw[j7 x1]
   refine zY [⟨0,17,iv 0,[]⟩,⟨1,18,.fn 329 [.ptr 3 0 0 0],[]⟩,⟨2,19,.ptr 2000000 0 0 0,[]⟩,⟨3,20,.ptr 2000000 0 0 0,[2]⟩,⟨4,21,.ptr 2000000 0 0 0,[2,3]⟩,⟨5,22,.ptr 2000000 0 0 0,[2,3,4]⟩,⟨6,23,.own 2000001,[2,3,4,5]⟩,⟨7,24,.ptr 4 0 0 2,[]⟩,⟨8,25,iv s.Left,[7]⟩,⟨9,26,.ptr 2000001 12 s.Left.toNat 0,[2,3,4,7,5,8,6]⟩,⟨10,27,.ptr 2000000 0 0 0,[]⟩,⟨11,28,.ptr 2000000 0 0 0,[10]⟩,⟨12,29,.ptr 2000000 0 0 0,[10,11]⟩,⟨13,30,.ptr 2000000 0 0 0,[10,11,12]⟩,⟨14,31,.own 2000001,[10,11,12,13]⟩,⟨15,32,.ptr 4 0 0 2,[]⟩,⟨16,33,iv s.Left,[15]⟩,⟨17,34,.ptr 2000001 12 s.Left.toNat 0,[10,11,12,15,13,16,14]⟩,⟨18,35,.ptr 2000001 12 s.Left.toNat 10,[10,11,12,15,13,16,14,17]⟩] [(19,[10,11,2,12,3,15,13,4,16,14,7,5,17,8,6,18,9,1]),(20,[10,11,2,12,3,15,13,4,16,14,7,5,17,8,6,18,9,1,19,0]),(21,[18,17,16,15,14,13,12,11,10,9,8,7,6,5,4,3,2,1,0,19,20])] (let T:=[(2,iv c),(3,.ptr 3 0 0 0),(4,.ptr 4 0 0 0),(7,.fn 329 [.ptr 3 0 0 0])];let H:=[(1000001,.hold vs [.ptr 2000000 0 0 0,.own 2000001,.mp 2000002]),(2000000,.box [.own 2000001,iv k,iv u.N,iv u.D,.mp 2000002] 414),(2000002,.mpb (λi:Int=>.int .i64 i) AV.bool (L)),(3,.box [.ptr 2000000 0 0 0] 406),(4,.box (smE s) 403)];λj=>match j with|0=>⟨(8,iv 0)::T,(2000001,.row itE (l) 241 12)::H⟩|1=>⟨(8,iv 0)::(36,iv (max (subE (itg l s.Left).Dur u) (addE (itg l s.Left).After u)))::T,(2000001,.row itE (l.set s.Left.toNat (zbn u (itg l s.Left))) 241 12)::H⟩|2=>⟨(8,iv 0)::(36,iv (max (subE (itg l s.Left).Dur u) (addE (itg l s.Left).After u)))::(37,iv (max 0 (max (subE (itg l s.Left).Dur u) (addE (itg l s.Left).After u))))::T,(2000001,.row itE (l.set s.Left.toNat (zbn u (itg l s.Left))) 241 12)::H⟩|_=>⟨(8,iv (max 0 (max (subE (itg l s.Left).Dur u) (addE (itg l s.Left).After u))))::T,(2000001,.row itE (l.set s.Left.toNat (zbn u (itg l s.Left))) 241 12)::H⟩) mo (zP (yh)) (λj hj=>?_) ⟨λβ=>Co2 rfl (zvb [(2000003,3),(2000000,2000000),(2000001,2000001),(2000002,2000002)] (zdF l k u L s.Left.toNat (itg l s.Left) hx)),λβ=>Co2 rfl (yW (bA (zpI rfl rfl)) rfl rfl),λβ=>Co2 rfl (yW (bA yU) rfl rfl),trivial⟩ ?_
   ·rcases j with _|_|_|_|j
    ·exact yE
    ·exact yE
    ·exact yE
    ·exact yE
    ·exact absurd (show j+4<=3 from hj) aa
   exact yl kW x0
  ·have K:l=chA u s c l:=by unfold chA;rw[j8 aa]
   have G:0=cEa u s c l:=by unfold cEa;rw[j8 aa]
   apply yf;exact yl kW x0
 refine zbm ⟨[(2,iv c),(3,.ptr 3 0 0 0),(4,.ptr 4 0 0 0),(7,.fn 329 [.ptr 3 0 0 0]),(8,iv (cEb u s c l))],[(1000001,.hold vs [.ptr 2000000 0 0 0,.own 2000001,.mp 2000002]),(2000000,.box [.own 2000001,iv k,iv u.N,iv u.D,.mp 2000002] 414),(2000001,.row itE (chB u s c l) 241 12),(2000002,.mpb (λi:Int=>.int .i64 i) AV.bool (chL s c L)),(3,.box [.ptr 2000000 0 0 0] 406),(4,.box (smE s) 403)]⟩ (λw2=>?_) ?_
 ·apply yc;iterate 2 refine ya ?_
  refine bI 2 ?_;refine yw ?_;iterate 2 refine bE ?_
  refine gf ?_ ?_<;>intro x2
  ·have xT:=hc.rt x2;have hx:=zfx (l:=chA u s c l) (i:=s.Right) xT (by rw[v9];exact rt);have K:(chA u s c l).set s.Right.toNat (zbx u (itg (chA u s c l) s.Right))=chB u s c l:=by unfold chB;rw[j7 x2];rfl
   have G:max (cEa u s c l) (max (subE (itg (chA u s c l) s.Right).Dur u) (addE (itg (chA u s c l) s.Right).Before u))=cEb u s c l:=by unfold cEb;rw[j7 x2]
   have v8:mput s.Right true L=chL s c L:=by unfold chL;rw[j7 x2]
   apply ye;refine zY [⟨0,44,iv (cEa u s c l),[]⟩,⟨1,45,.fn 329 [.ptr 3 0 0 0],[]⟩,⟨2,46,.ptr 2000000 0 0 0,[]⟩,⟨3,47,.ptr 2000000 0 0 0,[2]⟩,⟨4,48,.ptr 2000000 0 0 0,[2,3]⟩,⟨5,49,.ptr 2000000 0 0 0,[2,3,4]⟩,⟨6,50,.own 2000001,[2,3,4,5]⟩,⟨7,51,.ptr 4 0 0 3,[]⟩,⟨8,52,iv s.Right,[7]⟩,⟨9,53,.ptr 2000001 12 s.Right.toNat 0,[2,3,4,7,5,8,6]⟩,⟨10,54,.ptr 2000000 0 0 0,[]⟩,⟨11,55,.ptr 2000000 0 0 0,[10]⟩,⟨12,56,.ptr 2000000 0 0 0,[10,11]⟩,⟨13,57,.ptr 2000000 0 0 0,[10,11,12]⟩,⟨14,58,.own 2000001,[10,11,12,13]⟩,⟨15,59,.ptr 4 0 0 3,[]⟩,⟨16,60,iv s.Right,[15]⟩,⟨17,61,.ptr 2000001 12 s.Right.toNat 0,[10,11,12,15,13,16,14]⟩,⟨18,62,.ptr 2000001 12 s.Right.toNat 8,[10,11,12,15,13,16,14,17]⟩] [(19,[10,11,2,12,3,15,13,4,16,14,7,5,17,8,6,18,9,1]),(20,[10,11,2,12,3,15,13,4,16,14,7,5,17,8,6,18,9,1,19,0]),(21,[18,17,16,15,14,13,12,11,10,9,8,7,6,5,4,3,2,1,0,19,20])] (let T:=[(2,iv c),(3,.ptr 3 0 0 0),(4,.ptr 4 0 0 0),(7,.fn 329 [.ptr 3 0 0 0])];let H:=[(1000001,.hold vs [.ptr 2000000 0 0 0,.own 2000001,.mp 2000002]),(2000000,.box [.own 2000001,iv k,iv u.N,iv u.D,.mp 2000002] 414),(2000002,.mpb (λi:Int=>.int .i64 i) AV.bool (L)),(3,.box [.ptr 2000000 0 0 0] 406),(4,.box (smE s) 403)];λj=>match j with|0=>⟨(8,iv (cEa u s c l))::T,(2000001,.row itE (chA u s c l) 241 12)::H⟩|1=>⟨(8,iv (cEa u s c l))::(63,iv (max (subE (itg (chA u s c l) s.Right).Dur u) (addE (itg (chA u s c l) s.Right).Before u)))::T,(2000001,.row itE ((chA u s c l).set s.Right.toNat (zbx u (itg (chA u s c l) s.Right))) 241 12)::H⟩|2=>⟨(8,iv (cEa u s c l))::(63,iv (max (subE (itg (chA u s c l) s.Right).Dur u) (addE (itg (chA u s c l) s.Right).Before u)))::(64,iv (max (cEa u s c l) (max (subE (itg (chA u s c l) s.Right).Dur u) (addE (itg (chA u s c l) s.Right).Before u))))::T,(2000001,.row itE ((chA u s c l).set s.Right.toNat (zbx u (itg (chA u s c l) s.Right))) 241 12)::H⟩|_=>⟨(8,iv (max (cEa u s c l) (max (subE (itg (chA u s c l) s.Right).Dur u) (addE (itg (chA u s c l) s.Right).Before u))))::T,(2000001,.row itE ((chA u s c l).set s.Right.toNat (zbx u (itg (chA u s c l) s.Right))) 241 12)::H⟩) mo (zP (yh)) (λj hj=>?_) ⟨λβ=>Co2 rfl (zvb [(2000003,3),(2000000,2000000),(2000001,2000001),(2000002,2000002)] (zdG (chA u s c l) k u L s.Right.toNat (itg (chA u s c l) s.Right) hx)),λβ=>Co2 rfl (yW (bA (zpI rfl rfl)) rfl rfl),λβ=>Co2 rfl (yW (bA yU) rfl rfl),trivial⟩ ?_
   ·rcases j with _|_|_|_|j
    ·exact yE
    ·exact yE
    ·exact yE
    ·exact yE
    ·exact absurd (show j+4<=3 from hj) aa
   refine y4 [65,66,67,68,69,70] [0,1,3,7,0,16,63] mo ?_;refine yb ?_;refine yb ?_ (hs:=by exact yg rfl);(iterate 4 refine yb ?_);refine yD ?_;refine yX (zal (venc:=AV.bool) true rfl rfl rfl rfl rfl zrD zoY (λ_ _=>rfl)) ?_;apply bD;exact yl kW w2
  ·have K:chA u s c l=chB u s c l:=by unfold chB;rw[j8 aa]
   have G:cEa u s c l=cEb u s c l:=by unfold cEb;rw[j8 aa]
   have v8:L=chL s c L:=by unfold chL;rw[j8 aa]
   apply yf;exact yl kW w2
 refine gd ?_ ?_<;>intro E
 ·have xT:=hc.al E;have hx:=zfx (l:=chB u s c l) (i:=s.To-1) aa aa;have K:(chB u s c l).set (s.To-1).toNat (dblI (itg (chB u s c l) (s.To-1)))=chN u s c l:=by rw[zxh,j7 E];rfl
  have G:addE (itg (chB u s c l) (s.To-1)).Dur (itg (chB u s c l) (s.To-1)).Dur=cEc u s c l:=by unfold cEc;rw[j7 E]
  apply ye;refine y4 [9,73,74,75,76,77,78,79,80,81] [0,1,3,7,15,0,32,96,255,511] mo ?_;refine yb ?_;refine yb ?_ (hs:=by exact yg rfl);iterate 8 refine yb ?_
  refine yD ?_;apply bD;refine y4 [82,83,84,85,86,87,88,89,90,91,92,93,94,95,96] [0,0,2,6,14,0,32,96,224,510,1022,2046,2046,4095,12287,28671,65535] mo ?_;iterate 2 refine yb ?_
  refine yb ?_ (hs:=by exact yg rfl);refine yb ?_;refine yb ?_ (hs:=by exact zB (n:=2) rfl rfl hx rfl rfl ac rfl TyK.h);refine yb ?_;refine yb ?_ (hs:=by exact yg rfl);refine yb ?_;refine yb ?_ (hs:=by exact zB (n:=2) rfl rfl hx rfl rfl ac rfl TyK.h);refine yI (zaQ (itg (chB u s c l) (s.To-1)).Dur (itg (chB u s c l) (s.To-1)).Dur) ?_;iterate 3 refine yb ?_
  refine yb ?_ (hs:=by exact yg rfl);refine yb ?_;refine zar 12 ⟨[(8,iv (addE (itg (chB u s c l) (s.To-1)).Dur (itg (chB u s c l) (s.To-1)).Dur))],[(1000001,.hold vs [.ptr 2000000 0 0 0,.own 2000001,.mp 2000002]),(2000000,.box [.own 2000001,iv k,iv u.N,iv u.D,.mp 2000002] 414),(2000001,.row itE ((chB u s c l).set (s.To-1).toNat (dblI (itg (chB u s c l) (s.To-1)))) 241 12),(2000002,.mpb (λi:Int=>.int .i64 i) AV.bool (chL s c L))]⟩ (λQ hQ=>?_) (λQ hQ=>?_) ?_
  ·refine bF (hs:=y6 (n:=2) (itg (chB u s c l) (s.To-1)) (dblI (itg (chB u s c l) (s.To-1))) rfl rfl hx (λ_=>rfl) ac rfl rfl rfl ac rfl rfl rfl TyK.h) ?_;refine ya ?_;exact yY kW hQ
  ·refine bF (hs:=y6 (n:=2) (itg (chB u s c l) (s.To-1)) (dblI (itg (chB u s c l) (s.To-1))) rfl rfl hx (λ_=>rfl) ac rfl rfl rfl ac rfl rfl rfl TyK.h) ?_;(iterate 2 refine ya ?_);exact yY kW hQ
  apply yp;refine yC ?_;refine bC ?_;refine zhp (st':=⟨[(6,iv (cEc u s c l))],[(1000001,.hold vs [.ptr 2000000 0 0 0,.own 2000001,.mp 2000002]),(2000000,.box [.own 2000001,iv k,iv u.N,iv u.D,.mp 2000002] 414),(2000001,.row itE (chN u s c l) 241 12),(2000002,.mpb (λi:Int=>.int .i64 i) AV.bool (chL s c L))]⟩) (by exact kW) ?_;refine znf.mk [(6,iv (cEc u s c l))] [] (.inr rfl) (.one (.tmp rfl (kZ ?_)));all_goals rfl
 ·have K:chB u s c l=chN u s c l:=by rw[zxh,j8 E]
  have G:cEb u s c l=cEc u s c l:=by unfold cEc;rw[j8 E]
  apply yf;apply yc;refine yC ?_;refine bC ?_;refine zhp (st':=⟨[(6,iv (cEc u s c l))],[(1000001,.hold vs [.ptr 2000000 0 0 0,.own 2000001,.mp 2000002]),(2000000,.box [.own 2000001,iv k,iv u.N,iv u.D,.mp 2000002] 414),(2000001,.row itE (chN u s c l) 241 12),(2000002,.mpb (λi:Int=>.int .i64 i) AV.bool (chL s c L))]⟩) (by exact kW) ?_;refine znf.mk [(6,iv (cEc u s c l))] [] (.inr rfl) (.one (.tmp rfl (kZ ?_)));all_goals rfl
end
section
variable{M:List Int}{S:List Sgm}{c k:Int}{l:List Ite}{n:Nat}{s:Sgm}{u:Tm}
attribute [local irreducible] FnW FnOW
def zrH{u:Tm}{k:Int}{S:List Sgm}{l:List Ite}{M:List Int}{n:Nat}:∀{n':Nat},okJ u k S l M n'=true->n<=n'->okJ u k S l M n=true
 |0,h,hn=>by have:n=0:=aa
             subst this;exact h
 |n'+1,h,hn=>by
  by_cases e:n=n'+1
  ·subst e;exact h
  ·have N:(okJ u k S l M n'&&decide (M.getD n' 0∈alK u k S l M n'))=true:=h;simp only[jE]at N;exact zrH N.1 aa
def zxi(hs:S[n]? =some s)(N:M[n]? =some c):okJ u k S l M (n+1)=(okJ u k S l M n&&decide (c∈alQ u k (stK u S l M n).1 (stK u S l M n).2 s)):=by
 have e1:S.getD n default=s:=by rw[jB,hs];rfl
 have e2:M.getD n 0=c:=by rw[jB,N];rfl
 show(okJ u k S l M n&&decide (M.getD n 0∈alK u k S l M n))=_;unfold alK;rw[e1,e2]
def zxj(hs:S[n]? =some s)(N:M[n]? =some c):chN u s c (stK u S l M n).1=(stK u S l M (n+1)).1/\chL s c (stK u S l M n).2=(stK u S l M (n+1)).2:=by
 have e1:S.getD n default=s:=by rw[jB,hs];rfl
 have e2:M.getD n 0=c:=by rw[jB,N];rfl
 rw[zmo,e1,e2];exact⟨rfl,rfl⟩
def zo0(u:Tm)(k:Int)(l:List Ite)(L:List (Int×Bool))(s:Sgm):(alQ u k l L s).length<=5:=by
 unfold alQ alR;simp only[jJ];have h:∀(p:Prop)[Decidable p](x:Int),(if p then[x]else[]).length<=1:=λp _ x=>by split<;>simp
 have h1:=h (s.Count.N%3=0\/s.Free=true) 0;have K:=h (s.Count.N%3=1/\s.Count.D=1/\poQ u k l L s=true) 1;have H:=h (s.Count.N%3=1/\s.Free=false/\anQ u k l s=true) 2;have G:=h (s.Count.N%3=2/\s.Free=false/\poQ u k l L s=true/\anQ u k l s=true) 3;have E:=h (s.Count.N%3=2/\s.Free=false/\atQ u k l s=true) 4;omega
def zii{n':Nat}(h:SgB n s)(e:n'=n):SgB n' s:=e▸h
attribute [local irreducible] stK okJ alQ chN chL
def zay(u:Tm)(k:Int)(S:List Sgm)(l:List Ite)(M:List Int)(hS:SgsOk k l S)(hN:∀s∈S,0<=s.Count.N)(hM:M.length<=S.length)(hl:l.length<=1000000)(v2:S.length<=4000000)(k0:-9223372036854775808<=k)(k1:k+1<=9223372036854775807)(hok:okJ u k S l M M.length=true):FnO prog 239 [.ptr 2000000 0 0 0,smsA S,yj M] [(2000000,.box [.own 2000001,iv k,iv u.N,iv u.D,.mp 2000002] 414),(2000001,.row itE (l) 241 12),(2000002,.mpb (λi:Int=>.int .i64 i) AV.bool ([]))] [2000000,2000001,2000002] (.bool true) [(2000000,.box [.own 2000001,iv k,iv u.N,iv u.D,.mp 2000002] 414),(2000001,.row itE ((stK u S l M M.length).1) 241 12),(2000002,.mpb (λi:Int=>.int .i64 i) AV.bool ((stK u S l M M.length).2))]:=by
 have w2:(stK u S l M 0).1=l:=by unfold stK;rfl
 have v9:(stK u S l M 0).2=[]:=by unfold stK;rfl
 have v1:=w2.symm;have xT:=v9.symm;refine c8 [.ptr 2000000 0 0 0,.own 2000001,.mp 2000002] func239 ntmps239 (λg w d vs=>?_);apply yc;refine ya ?_;apply yp;refine ya ?_;refine ya (hs:=zkM rfl) ?_;refine yk ?_;apply ye;apply yc;refine yo ?_;apply kX;refine y9 [0,1,7,12,13] (λn zz=>(14,iv (n:Int))::zz) [1000001,2000000] (λn zz=>(2000001,.row itE ((stK u S l M n).1) 241 12)::(2000002,.mpb (λi:Int=>.int .i64 i) AV.bool ((stK u S l M n).2))::zz) M.length (λn hk=>?_) (h0:=by exact c7 (by(repeat'(first|exact True.intro|(refine And.intro ⟨_,rfl,?_⟩ ?_;(first|exact bM _|exact LeV.any _|exact bN _|(refine kZ ?_;simp;done)|(refine kZ ?_;congr 1;omega)|(refine kZ ?_;dsimp only;congr 1;omega)|(refine kZ (jA (AV.int _) ?_);omega)|exact bO _|exact bW ai|(refine bQ ?_;congr 1;omega)|(refine bQ ?_;congr 1;simp only[cond_true,cond_false];omega)))))) (by(repeat'(first|exact True.intro|(refine And.intro ⟨_,rfl,?_⟩ ?_;(first|exact bN _|exact bW ai|exact bQ (jA (λz=>Blk.mpb (λi:Int=>.int .i64 i) AV.bool z) xT)|exact bQ (jA (λz=>Blk.mpb (λi:Int=>.int .i64 i) AV.bool z) K)))))));refine gd ?_ ?_<;>intro v0
 ·have E:=@getX _ S n aa;obtain⟨s,hs,k9⟩:=E;have E:=@getX _ M n aa;obtain⟨c,hc,x2⟩:=E;have v8:=zcP u S l M n;have x1:=hS.all s (j6 hs);have x0:=zii x1.b v8;have H:=zxj (u:=u) (l:=l) hs hc;have v3:=H.1;have K:=H.2;have v5:=hN s (j6 hs);have k8:=zo0 u k (stK u S l M n).1 (stK u S l M n).2 s;have v4:=zxi (u:=u) (k:=k) (l:=l) hs hc
  have G:c∈alQ u k (stK u S l M n).1 (stK u S l M n).2 s:=by
   have h:=zrH hok (show n+1<=M.length by omega);rw[v4]at h;simpa using(Bool.and_eq_true_iff.1 h).2
  refine gq ?_;refine bP (zgQ (ι:=Nat) (stF:=λb=>⟨[(19,.ept (λ_:Unit=>[.sl itE (stK u S l M n).1,iv k,iv u.N,iv u.D,.val (.map (some b))]) () 0),(23,smA s)],[]⟩) 24 (λg a w hr=>zpU (k:=2000002) rfl (λb=>(kY (k:=2000001) rfl).trans ((bG (k:=2000000) rfl rfl).trans yh)) (λ_=>rfl) (λ_=>rfl) hr) (λb=>zap (stK u S l M n).1 k u b (stK u S l M n).2 s x0 aa k0 k1 v5)) rfl rfl ?_;refine yY (st':=⟨[(0,.ptr 2000000 0 0 0),(1,smsA S),(7,.mth 269 2000000 0 0 0),(8,iv (n:Int)),(9,iv c),(12,yj M),(13,iv M.length),(14,iv (n:Int)),(24,yj (alQ u k (stK u S l M n).1 (stK u S l M n).2 s))],[(1000001,.hold vs [.ptr 2000000 0 0 0,.own 2000001,.mp 2000002]),(2000000,.box [.own 2000001,iv k,iv u.N,iv u.D,.mp 2000002] 414),(2000001,.row itE ((stK u S l M n).1) 241 12),(2000002,.mpb (λi:Int=>.int .i64 i) AV.bool ((stK u S l M n).2))]⟩) ((kY (k:=24) rfl).trans yh) ?_;refine gc (yQ (alQ u k (stK u S l M n).1 (stK u S l M n).2 s) c aa) ?_;refine gd ?_ ?_<;>intro x2
  ·exact absurd G x2
  refine gq ?_;refine yX (zxT [(2000000,2000000),(2000001,2000001),(2000002,2000002)] (zcw (stK u S l M n).1 k u (stK u S l M n).2 s c x0 (zla x1.ft G) aa)) ?_;refine gq ?_;refine yr (n+1) (hI:=c7 (by(repeat'(first|exact True.intro|(refine And.intro ⟨_,rfl,?_⟩ ?_;(first|exact bM _|exact LeV.any _|exact bN _|(refine kZ ?_;simp;done)|(refine kZ ?_;congr 1;omega)|(refine kZ ?_;dsimp only;congr 1;omega)|(refine kZ (jA (AV.int _) ?_);omega)|exact bO _|exact bW ai|(refine bQ ?_;congr 1;omega)|(refine bQ ?_;congr 1;simp only[cond_true,cond_false];omega)))))) (by(repeat'(first|exact True.intro|(refine And.intro ⟨_,rfl,?_⟩ ?_;(first|exact bN _|exact bW ai|exact bQ (jA (λz=>Blk.mpb (λi:Int=>.int .i64 i) AV.bool z) xT)|exact bQ (jA (λz=>Blk.mpb (λi:Int=>.int .i64 i) AV.bool z) K)))))))
 ·have hn:n=M.length:=aa
  subst hn;apply bH;apply yc;refine yk ?_;refine bC ?_;refine znf.mk [(6,.bool true)] [] (.inr rfl) (.one (.tmp rfl (kZ ?_)));all_goals rfl
def zbM(u:Tm)(k:Int)(S:List Sgm)(l:List Ite)(M:List Int)(hS:SgsOk k l S)(hN:∀s∈S,0<=s.Count.N)(hM:M.length<=S.length)(hl:l.length<=1000000)(v1:S.length<=4000000)(k0:-9223372036854775808<=k)(k1:k+1<=9223372036854775807)(hok:okJ u k S l M M.length=false):FnO prog 239 [.ptr 2000000 0 0 0,smsA S,yj M] [(2000000,.box [.own 2000001,iv k,iv u.N,iv u.D,.mp 2000002] 414),(2000001,.row itE (l) 241 12),(2000002,.mpb (λi:Int=>.int .i64 i) AV.bool ([]))] [] (.bool false) []:=by
 have v9:(stK u S l M 0).1=l:=by unfold stK;rfl
 have v8:(stK u S l M 0).2=[]:=by unfold stK;rfl
 have v0:=v9.symm;have xT:=v8.symm;refine c8 [] func239 ntmps239 (λg w d vs=>?_);apply yc;refine ya ?_;apply yp;refine ya ?_;refine ya (hs:=zkM rfl) ?_;refine yk ?_;apply ye;apply yc;refine yo ?_;apply kX;refine zag (ι:=Nat) [0,1,7,12,13] (λ(n:Nat)zz=>(14,iv (n:Int))::zz) [1000001,2000000] (λ(n:Nat)zz=>(2000001,.row itE ((stK u S l M n).1) 241 12)::(2000002,.mpb (λi:Int=>.int .i64 i) AV.bool ((stK u S l M n).2))::zz) (λ(n:Nat)=>n<=M.length/\okJ u k S l M n=true) (λ(n:Nat)=>M.length-n) 0 (λn hk=>?_) (hJ:=by exact⟨aa,by unfold okJ;rfl⟩) (h0:=by exact c7 (by(repeat'(first|exact True.intro|(refine And.intro ⟨_,rfl,?_⟩ ?_;(first|exact bM _|exact LeV.any _|exact bN _|(refine kZ ?_;simp;done)|(refine kZ ?_;congr 1;omega)|(refine kZ ?_;dsimp only;congr 1;omega)|(refine kZ (jA (AV.int _) ?_);omega)|exact bO _|exact bW ai|(refine bQ ?_;congr 1;omega)|(refine bQ ?_;congr 1;simp only[cond_true,cond_false];omega)))))) (by(repeat'(first|exact True.intro|(refine And.intro ⟨_,rfl,?_⟩ ?_;(first|exact bN _|exact bW ai|exact bQ (jA (λz=>Blk.mpb (λi:Int=>.int .i64 i) AV.bool z) xT)|exact bQ (jA (λz=>Blk.mpb (λi:Int=>.int .i64 i) AV.bool z) K)))))));obtain⟨k9,x2⟩:=hk;refine gd ?_ ?_<;>intro k8
 ·have E:=@getX _ S n aa;obtain⟨s,hs,k7⟩:=E;have E:=@getX _ M n aa;obtain⟨c,hc,x1⟩:=E;have v5:=zcP u S l M n;have x0:=hS.all s (j6 hs);have w2:=zii x0.b v5;have H:=zxj (u:=u) (l:=l) hs hc;have v2:=H.1;have K:=H.2;have v4:=hN s (j6 hs);have k6:=zo0 u k (stK u S l M n).1 (stK u S l M n).2 s;have v3:=zxi (u:=u) (k:=k) (l:=l) hs hc;refine gq ?_;refine bP (zgQ (ι:=Nat) (stF:=λb=>⟨[(19,.ept (λ_:Unit=>[.sl itE (stK u S l M n).1,iv k,iv u.N,iv u.D,.val (.map (some b))]) () 0),(23,smA s)],[]⟩) 24 (λg a w hr=>zpU (k:=2000002) rfl (λb=>(kY (k:=2000001) rfl).trans ((bG (k:=2000000) rfl rfl).trans yh)) (λ_=>rfl) (λ_=>rfl) hr) (λb=>zap (stK u S l M n).1 k u b (stK u S l M n).2 s w2 aa k0 k1 v4)) rfl rfl ?_;refine yY (st':=⟨[(0,.ptr 2000000 0 0 0),(1,smsA S),(7,.mth 269 2000000 0 0 0),(8,iv (n:Int)),(9,iv c),(12,yj M),(13,iv M.length),(14,iv (n:Int)),(24,yj (alQ u k (stK u S l M n).1 (stK u S l M n).2 s))],[(1000001,.hold vs []),(2000000,.box [.own 2000001,iv k,iv u.N,iv u.D,.mp 2000002] 414),(2000001,.row itE ((stK u S l M n).1) 241 12),(2000002,.mpb (λi:Int=>.int .i64 i) AV.bool ((stK u S l M n).2))]⟩) ((kY (k:=24) rfl).trans yh) ?_;refine gc (yQ (alQ u k (stK u S l M n).1 (stK u S l M n).2 s) c aa) ?_;refine gd ?_ ?_<;>intro x1
  ·apply yc;refine yk ?_;refine bC ?_;refine znf.mk [(6,.bool false)] [(2000000,.box [.own 2000001,iv k,iv u.N,iv u.D,.mp 2000002] 414),(2000001,.row itE ((stK u S l M n).1) 241 12),(2000002,.mpb (λi:Int=>.int .i64 i) AV.bool ((stK u S l M n).2))] (.inr rfl) (.one (.tmp rfl (kZ ?_)));all_goals rfl
  have G:c∈alQ u k (stK u S l M n).1 (stK u S l M n).2 s:=x1;refine gq ?_;refine yX (zxT [(2000000,2000000),(2000001,2000001),(2000002,2000002)] (zcw (stK u S l M n).1 k u (stK u S l M n).2 s c w2 (zla x0.ft G) aa)) ?_;refine gq ?_;refine yr (n+1) (hJ:=by exact⟨aa,by rw[v3,x2,wD G];rfl⟩) (hI:=c7 (by(repeat'(first|exact True.intro|(refine And.intro ⟨_,rfl,?_⟩ ?_;(first|exact bM _|exact LeV.any _|exact bN _|(refine kZ ?_;simp;done)|(refine kZ ?_;congr 1;omega)|(refine kZ ?_;dsimp only;congr 1;omega)|(refine kZ (jA (AV.int _) ?_);omega)|exact bO _|exact bW ai|(refine bQ ?_;congr 1;omega)|(refine bQ ?_;congr 1;simp only[cond_true,cond_false];omega)))))) (by(repeat'(first|exact True.intro|(refine And.intro ⟨_,rfl,?_⟩ ?_;(first|exact bN _|exact bW ai|exact bQ (jA (λz=>Blk.mpb (λi:Int=>.int .i64 i) AV.bool z) xT)|exact bQ (jA (λz=>Blk.mpb (λi:Int=>.int .i64 i) AV.bool z) K)))))))
 ·have hn:n=M.length:=aa
  subst hn;exact absurd x2 (by rw[hok];decide)
end
end Go.Rse
