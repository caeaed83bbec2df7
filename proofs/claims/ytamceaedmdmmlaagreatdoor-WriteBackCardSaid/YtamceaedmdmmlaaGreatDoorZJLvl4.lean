/-
  Walks.
-/
import Derived.Test.YtamceaedmdmmlaaGreatDoorZJLev1
set_option linter.all false
set_option maxHeartbeats 4000000
namespace Go.Rse
open Go Go.Proofs Go.Proofs.Tryz
section
attribute [local irreducible] Pur yy yz Ex X Fn Imp LeV LeB FnO It yH
def lesE(e h:Int)(t d:Tm):Int:=if e=0/\0<=h then lsE t d else e
def lesT(e h:Int)(t d:Tm):Tm:=if e=0/\0<=h then subV t d else t
theorem ztK{t d:Tm}{h:Int}:(cn1 t h d).2=lesE 0 h t d/\((cn1 t h d).2=0->(cn1 t h d).1=lesT 0 h t d):=by
 grind[cn1,lesE,lesT]
def zxS{l:List Ite}{s:Sgm}(h:(cnA l s).2=0):
 (cnC l s).2=lesE (lesE (cnA l s).2 s.Left (cnA l s).1 (itg l s.Left).After) s.Right (lesT (cnA l s).2 s.Left (cnA l s).1 (itg l s.Left).After) (itg l s.Right).Before∧
 ((cnC l s).2=0->(cnC l s).1=lesT (lesE (cnA l s).2 s.Left (cnA l s).1 (itg l s.Left).After) s.Right (lesT (cnA l s).2 s.Left (cnA l s).1 (itg l s.Left).After) (itg l s.Right).Before):=by
 grind[cnB,cnC,ztK,lesE]
def zq6{u:Tm}{l:List Ite}{s:Sgm}(h:¬(cnA l s).2=0):cnE u l s=(cnA l s).2/\cnV u l s=tmZ:=by
 simp_all[cnB,cnC,cnE,cnV]
def zq7{u:Tm}{l:List Ite}{s:Sgm}(h:¬(cnC l s).2=0):cnE u l s=(cnC l s).2/\cnV u l s=tmZ:=by
 simp_all[cnE,cnV]
def zq8{u:Tm}{l:List Ite}{s:Sgm}(h:(cnC l s).2=0):cnE u l s=divE (cnC l s).1 u/\cnV u l s=divV (cnC l s).1 u:=by
 simp_all[cnE,cnV]
def zAw{l:List Ite}{s:Sgm}(hl:∀x∈l,itF x=0):sumE (drL (itR l s))=(cnA l s).2/\sumV (drL (itR l s))=(cnA l s).1:=by
 have hf:∀L:List Tm,(∀t∈L,ckT t=0)->yM L=0:=by
  intro L
  induction L with
  |nil=>intro _;rfl
  |cons t r ih=>intro h;simp only[yM];rw[j6 (h t (by simp))];exact ih λx hx=>h x (wE _ hx)
 have h0:yM (drL (itR l s))=0:=hf _ λt ht=>by
  unfold drL itR at ht;obtain⟨x,hx,rfl⟩:=jW.1 ht;exact(zhj (hl x (List.mem_of_mem_drop (List.mem_of_mem_take hx)))).2.1
 simp_all[sumE,sumV,cnA]
def zq9{L:List Ite}{k:Nat}{x:Ite}(h:L[k]? =some x):drL (L.take k)++[x.Dur]=drL (L.take (k+1)):=by
 simp_all[drL,jG]
def ztL{l:List Ite}{s:Sgm}{k:Int}(hs:SgOk k l s):((itR l s).length:Int)=s.To-s.From:=by
 unfold itR;have:=hs.f0;have:=hs.ft;have:=hs.tl
 grind
def sgP(u:Tm)(l:List Ite)(L:List Sgm)(n:Nat):List Sgm:=(L.take n).map (segW u l)++L.drop n
def zAx(u:Tm)(l:List Ite)(L:List Sgm):L=sgP u l L 0:=rfl
def ztM(u:Tm)(l:List Ite)(L:List Sgm)(n:Nat):(sgP u l L n).length=L.length:=by
 grind[sgP]
def zxT{u:Tm}{l:List Ite}{L:List Sgm}{n:Nat}{s:Sgm}(h:L[n]? =some s):(sgP u l L n)[n]? =some s/\(sgP u l L n).set n (segW u l s)=sgP u l L (n+1):=by
 have hn:=(j5.1 h).1;have hl:((L.take n).map (segW u l)).length=n:=by rw[jS,jO];omega
 grind[sgP,List.set_append_right,List.drop_eq_getElem_cons]
theorem ztN(u:Tm)(l:List Ite)(L:List Sgm):sgP u l L L.length=L.map (segW u l):=by
 simp[sgP]
def zra{u:Tm}{l:List Ite}{s:Sgm}(h:¬cnE u l s=0):segR u l s=cnE u l s:=by unfold segR;rw[j7 h]
attribute [local irreducible] sgP subV subE lsE lesE lesT cnA cnC divE divV sumE sumV
def zdS(x:Ite):Fn prog 284 [itA x] (tmA x.After):=by
 refine kR func284 ntmps284 (λg w d=>?_);refine gq ?_;refine kY (.one (.cellA rfl rfl rfl rfl ty61 (kO ?_)));rfl
def zdT(x:Ite):Fn prog 285 [itA x] (tmA x.Before):=by
 refine kR func285 ntmps285 (λg w d=>?_);refine gq ?_;refine kY (.one (.cellA rfl rfl rfl rfl ty61 (kO ?_)));rfl
def zbE(l:List Ite)(h e:Int)(t:Tm)(fp:FuncId)(d1:Ite->Tm)(hf:∀x,Fn prog fp [itA x] (tmA (d1 x)))(J:h<l.length):FnO prog 283 [iv h,.fn fp [],.ptr 2000000 0 0 0,.ptr 2000001 0 0 0,.ptr 2000002 0 0 0] [(2000000,.box [iv e] 31),(2000001,.box (tmE t) 61),(2000002,.box [itsA l] 282)] [2000000,2000001,2000002] (.tup []) [(2000000,.box [iv (lesE e h t (d1 (itg l h)))] 31),(2000001,.box (tmE (lesT e h t (d1 (itg l h)))) 61),(2000002,.box [itsA l] 282)]:=by
 refine bH (ts:=[(0,iv h),(1,.fn fp []),(2,.ptr 2000000 0 0 0),(3,.ptr 2000001 0 0 0),(4,.ptr 2000002 0 0 0)]) (rv:=[]) (n:=27) (cs:=[.ptr 2000000 0 0 0,.ptr 2000001 0 0 0,.ptr 2000002 0 0 0]) (by kernel_rfl) func283 rfl ntmps283 rfl rfl (by simp) rfl rfl rfl rfl (λg w d vs=>?_);apply yh;apply ye;iterate 2 refine ya ?_
 refine kU 2 ?_;refine yo ?_;iterate 2 refine kS ?_
 refine gf ?_ ?_<;>intro U
 ·have hE:e=lesE e h t (d1 (itg l h)):=by grind[lesE]
  have V:t=lesT e h t (d1 (itg l h)):=by grind[lesT]
  refine kQ ?_;rw[←hE,←V];refine zkW.mk [] [] (.inr rfl) (.many (by decide) .nil);all_goals rfl
 have hE:lsE t (d1 (itg l h))=lesE e h t (d1 (itg l h)):=by simp_all[lesE]
 have V:subV t (d1 (itg l h))=lesT e h t (d1 (itg l h)):=by simp_all[lesT]
 refine gq ?_;refine yW [13,14,15,16,17,18,19,20,21,22,23,24] [0,0,0,4,0,28,60,126,255,511,1023,1023,2047,8191] mo ?_;iterate 7 refine yb ?_
 refine yO (hf (itg l h)) ?_;refine yO (zcU t (d1 (itg l h))) ?_;iterate 3 refine yb ?_
 refine ChM.lt 11 ?_ ?_
 ·refine gd ?_ ?_<;>intro T
  ·have Z:(14:Int)=lesE e h t (d1 (itg l h)):=by simp_all[lsE]
   apply yf;refine kV ?_;apply kW;rw[←Z,←V];refine zkW.mk [] [] (.inl rfl) (.many (by decide) .nil);all_goals rfl
  ·have Z:subE t (d1 (itg l h))=lesE e h t (d1 (itg l h)):=by simp_all[lsE]
   apply yk;rw[←Z,←V];refine zkW.mk [] [] (.inl rfl) (.many (by decide) .nil);all_goals rfl
 ·refine gd ?_ ?_<;>intro N
  ·have Z:(14:Int)=lesE e h t (d1 (itg l h)):=by simp_all[lsE]
   apply yf;refine kV ?_;apply kW;rw[←Z,←V];refine zkW.mk [] [] (.inl rfl) (.many (by decide) .nil);all_goals rfl
  ·have Z:subE t (d1 (itg l h))=lesE e h t (d1 (itg l h)):=by simp_all[lsE]
   apply yk;rw[←Z,←V];refine zkW.mk [] [] (.inl rfl) (.many (by decide) .nil);all_goals rfl
def zev(l:List Ite)(s:Sgm)(u:Tm)(k:Int)(hs:SgOk k l s)(E:∀x∈l,itF x=0)(hl:l.length<=1000000):Fn prog 256 [.agg [itsA l],smA s,tmA u] (.tup [tmA (cnV u l s),iv (cnE u l s)]):=by
 have f0:=hs.f0;have ft:=hs.ft;have tl:=hs.tl;have xT:=ztL hs;have x4:=zAw (s:=s) E;have J:s.Left<l.length:=by rcases hs.lf with h|h<;>omega
 have H:s.Right<l.length:=by rcases hs.rt with h|h<;>omega
 have T:Fn prog 282 [tmsA (drL ((itR l s).take (itR l s).length))] (.tup [tmA (cnA l s).1,iv (cnA l s).2]):=by
  grind[znT,drL]
 have x3:[]=drL ((itR l s).take 0):=by rfl
 refine kR func256 ntmps256 (λg w d=>?_);apply ye;iterate 3 refine zz ?_
 refine za ?_;refine ya ?_;apply yE;refine yj ?_;iterate 2 apply yh
 refine kT (yG tmE 61 2 8 200 rfl rfl) ?_;apply yf;iterate 6 refine ya ?_
 refine zo (zdj rfl rfl rfl zhT zkZ (λ_=>rfl) (by omega) (by omega) (by omega)) rfl ?_;refine yQ ?_;apply kP;refine zm (λn=>[(3,.ptr 3 0 0 0),(4,.ptr 4 0 0 0),(5,.ptr 5 0 0 0),(6,.ptr 6 0 0 0),(8,.own 200),(20,itsA (itR l s)),(21,iv (itR l s).length),(22,iv (n:Int))]) (λn=>[(3,.box [itsA l] 282),(4,.box (smE s) 260),(5,.box (tmE u) 61),(6,.box [iv 0,iv 0] 61),(200,.row tmE (drL ((itR l s).take n)) 61 2)]) ((itR l s).length) (λn hk=>?_) (h0:=yd);refine gd ?_ ?_<;>intro x2
 ·have G:=@getX _ (itR l s) n (by omega);obtain⟨x,hx,x1⟩:=G;have x0:=zq9 hx;have w9:(drL ((itR l s).take n)).length<=1000000:=by unfold drL;simp;omega
  refine gq ?_;refine yD tmE [⟨_,_⟩] ?_;refine gq ?_;refine yu (n+1)
 ·have hn:n=(itR l s).length:=by omega
  subst hn;apply bA;apply yh;refine kT (kL (k:=200) rfl) ?_;refine gc T ?_;refine gd ?_ ?_<;>intro V
  ·have hE:=(zq6 (u:=u) V).1;have U:=(zq6 (u:=u) V).2;apply yh;refine yW [39,40] [0,0,1,7] mo ?_;(iterate 2 refine yb ?_);refine ChM.lt 1 ?_ ?_
   ·refine gq ?_;refine yx ty61 ?_ ?_;all_goals(first|exact zE hE|exact zE U)
   ·refine gq ?_;refine yx ty61 ?_ ?_;all_goals(first|exact zE hE|exact zE U)
  have Z:=zxS V;refine gq ?_;refine zZ [(2000000,12),(2000001,11),(2000002,3)] (zbE l s.Left (cnA l s).2 (cnA l s).1 284 (λx=>x.After) zdS J) ?_;refine gq ?_;refine zZ [(2000000,12),(2000001,11),(2000002,3)] (zbE l s.Right (lesE (cnA l s).2 s.Left (cnA l s).1 (itg l s.Left).After) (lesT (cnA l s).2 s.Left (cnA l s).1 (itg l s.Left).After) 285 (λx=>x.Before) zdT H) ?_;refine gd ?_ ?_<;>intro N
  ·have h0:¬(cnC l s).2=0:=by rw[Z.1];exact N
   have hE:=(zq7 (u:=u) h0).1;have U:=(zq7 (u:=u) h0).2;rw[Z.1]at hE;apply yh;refine yW [52,53] [0,0,1,7] mo ?_;(iterate 2 refine yb ?_);refine ChM.lt 1 ?_ ?_
   ·refine gq ?_;refine yx ty61 ?_ ?_;all_goals(first|exact zE hE|exact zE U)
   ·refine gq ?_;refine yx ty61 ?_ ?_;all_goals(first|exact zE hE|exact zE U)
  have h0:(cnC l s).2=0:=by rw[Z.1];exact N
  have hE:=(zq8 (u:=u) h0).1;have U:=(zq8 (u:=u) h0).2;rw[Z.2 h0]at hE U;refine gc (znA (lesT (lesE (cnA l s).2 s.Left (cnA l s).1 (itg l s.Left).After) s.Right (lesT (cnA l s).2 s.Left (cnA l s).1 (itg l s.Left).After) (itg l s.Right).Before) u) ?_;refine yx ty61 ?_ ?_;all_goals grind[setAt,tmE]
def zbX(m:Mn)(k:Int)(l:List Ite)(h0:-9223372036854775808<=k)(h1:k<=9223372036854775807)(hl:l.length<=1000000):Fn prog 223 [mnA m,iv k,itsA l] (.tup [smsA (segV m k l),iv (segE m k l)]):=by
 have hok:=zll k l;have x1:=zAx (unT m k) l (sgs0 l (bds k l));have xT:=zqX k l (bds k l).length;rw[jK]at xT;refine kR func223 ntmps223 (λg w d=>?_);refine gc (zgC m k h0 h1) ?_;refine gd ?_ ?_<;>intro V
 ·have hE:segE m k l=unE m k:=by unfold segE;rw[j7 V]
  have U:[]=segV m k l:=by unfold segV;rw[j7 (by rw[hE];exact V)]
  apply ye;refine yC ?_;refine kQ ?_;refine kM (yd (ts:=[(6,smsA []),(7,iv (unE m k))]) (hs:=[])) ?_;refine yl ?_ ?_;all_goals grind
 have hU:unE m k=0:=V;refine gc (zfD l (by omega)) ?_;refine gd ?_ ?_<;>intro T
 ·have hE:segE m k l=ckIE l:=by unfold segE;rw[j6 hU,j7 T]
  have U:[]=segV m k l:=by unfold segV;rw[j7 (by rw[hE];exact T)]
  apply ye;refine yC ?_;refine kQ ?_;refine kM (yd (ts:=[(6,smsA []),(7,iv (ckIE l))]) (hs:=[])) ?_;refine yl ?_ ?_;all_goals grind
 have hK:ckIE l=0:=T;have hP:=zcI hK;have N:segE m k l=segX (unT m k) l (sgs0 l (bds k l)):=by grind[segE]
 refine gq ?_;refine zZ [(39,39)] (zee l k hl) ?_;refine gq ?_
 refine zen (ι:=Nat) (λ(n:Nat)=>[(8,.ptr 8 0 0 0),(12,.ptr 12 0 0 0),(13,.own 39),(40,iv (sgs0 l (bds k l)).length),(41,iv (n:Int))]) (λ(n:Nat)=>[(8,.box (tmE (unT m k)) 61),(12,.box [itsA l] 282),(39,.row smE (sgP (unT m k) l (sgs0 l (bds k l)) n) 260 7)]) (λ(n:Nat)=>n<=(sgs0 l (bds k l)).length/\segX (unT m k) l (sgs0 l (bds k l))=segX (unT m k) l ((sgs0 l (bds k l)).drop n)) (λ(n:Nat)=>(sgs0 l (bds k l)).length-n) 0 (λn hk=>?_) (hJ:=by
  simp) (h0:=by exact yg)
 obtain⟨x0,J⟩:=hk;refine gd ?_ ?_<;>intro w9
 ·obtain⟨s,hs⟩:∃s,(sgs0 l (bds k l))[n]? =some s:=⟨_,lgg (by omega)⟩;have x4:=hok.all s (j8 hs);have w2:=ztM (unT m k) l (sgs0 l (bds k l)) n;have H:=zxT (u:=unT m k) (l:=l) hs;have G:=H.1;have v9:=H.2;have E:(sgP (unT m k) l (sgs0 l (bds k l)) n)[(n:Int).toNat]? =some s:=by simpa using G
  refine gq ?_;refine yW [15,44,45,46,47,48,49,50,51,52,53] [0,0,0,6,14,0,63,127,255,255,0,1535,4095] mo ?_;iterate 4 refine yb ?_
  refine yb ?_ (hs:=by exact ze2 rfl rfl E rfl rfl TyK.h);refine yb ?_;refine yO (zev l s (unT m k) k x4 hP hl) ?_;iterate 3 refine yb ?_
  refine ChM.step rfl rfl rfl (zp (k:=15) zc61) rfl ?_;refine zbS 9 ⟨[(8,.ptr 8 0 0 0),(12,.ptr 12 0 0 0),(13,.own 39),(40,iv (sgs0 l (bds k l)).length),(41,iv (n:Int)),(14,iv (n:Int)),(15,.ptr 15 0 0 0),(16,iv (cnE (unT m k) l s))],[(8,.box (tmE (unT m k)) 61),(12,.box [itsA l] 282),(39,.row smE (sgP (unT m k) l (sgs0 l (bds k l)) n) 260 7),(15,.box (tmE (cnV (unT m k) l s)) 61)]⟩ (λQ hQ=>?_) (λQ hQ=>?_) ?_
  ·refine kV ?_;refine ya ?_;exact bF yg hQ
  ·refine kV ?_;(iterate 2 refine ya ?_);exact bF yg hQ
  refine gd ?_ ?_<;>intro Z
  ·have hR:=zra Z;have hE:segE m k l=cnE (unT m k) l s:=by rw[N,J,zdz hs,hR,j7 Z]
   have U:[]=segV m k l:=by unfold segV;rw[j7 (by rw[hE];exact Z)]
   apply ye;refine yC ?_;refine kQ ?_;refine kM (yd (ts:=[(6,smsA []),(7,iv (cnE (unT m k) l s))]) (hs:=[])) ?_;refine yl ?_ ?_;all_goals grind
  have x3:cnE (unT m k) l s=0:=Z;apply yk;apply yh;apply ye;iterate 6 refine ya ?_
  refine kU 6 ?_;refine yo ?_;iterate 3 refine kS ?_
  refine gf ?_ ?_<;>intro x2
  ·have hR:segR (unT m k) l s=14:=by unfold segR;rw[j6 x3,j6 x2]
   have hE:segE m k l=14:=by rw[N,J,zdz hs,hR,j7 (by decide)]
   have U:[]=segV m k l:=by unfold segV;rw[j7 (by rw[hE];decide)]
   apply ye;refine yQ ?_;refine kQ ?_;refine kM (yd (ts:=[(6,smsA []),(7,iv 14)]) (hs:=[])) ?_;refine yl ?_ ?_;all_goals grind
  have hR:segR (unT m k) l s=0:=by grind[segR]
  apply yk;apply yf;iterate 5 refine ya ?_
  refine kV (hs:=y6 (n:=2) s (segW (unT m k) l s) rfl rfl G (λ_=>rfl) (by decide) rfl rfl rfl (by decide) rfl rfl rfl TyK.h) ?_;refine gq ?_
  refine yu (n+1) (hJ:=by
   grind[zdz]) (hI:=yg)
 ·have hn:n=(sgs0 l (bds k l)).length:=by omega
  subst hn;have hE:segE m k l=0:=by rw[N,J,wT];rfl
  have U:sgP (unT m k) l (sgs0 l (bds k l)) (sgs0 l (bds k l)).length=segV m k l:=by grind[segV,ztN]
  apply bA;apply ye;refine yC ?_;refine kQ ?_;refine kM (kL (k:=39) rfl) ?_;refine yl ?_ ?_;all_goals(first|(rw[←U];done)|exact zE hE|exact j9 (λz=>smsA z) U|(rw[←U];rfl))
end
section
def pfF:Tm->List Tm->List Tm
 |_,[]=>[]
 |t,d::r=>t::pfF (addV t d) r
def sumA:Tm->List Tm->Tm
 |t,[]=>t
 |t,d::r=>sumA (addV t d) r
def rlaL(l:List Ite):List Tm:=((pfF ⟨0,1⟩ (drL l)).filter λt=>decide (subE (sumA ⟨0,1⟩ (drL l)) t=0)).map λt=>subV (sumA ⟨0,1⟩ (drL l)) t
def rfPo(u:Tm)(k:Int)(l now:List Ite)(lo:Bool)(s:Sgm):Bool:=
 !(decide (s.Left<0)||!lgQ u (itg now s.Left))&&(!(lo&&decide ((itg l s.Left).Value=k))&&rcQ u (fsL (itR l s)) (itg l s.Left).After)
def rfBl(k:Int)(l:List Ite)(h:Int):Bool:=
 decide ((itg l h).Value=k)&&decide ((itg l h).Cut=0)&&decide (h+1<l.length)&&!(itg l (h+1)).Color&&decide ((itg l (h+1)).Value=k)
def rfAn(u:Tm)(k:Int)(l now:List Ite)(s:Sgm):Bool:=
 !(decide (s.Right<0)||!lgQ u (itg now s.Right))&&(!rfBl k l s.Right&&rcQ u (rlaL (itR l s)) (itg l s.Right).Before)
def rfAt(u:Tm)(k:Int)(l:List Ite)(s:Sgm):Bool:=
 !(decide (s.From=s.To)||s.Free||(!decide (s.Right<0)&&!decide ((itg l s.Right).Before.N=0)))&&ntQ u k (itg l (s.To-1))
def rfR(p a t:Bool)(s:Sgm):List Int:=
 if s.Free=true then(if s.Count.D=1/\s.Count.N%3=1/\p=true then[0,1]else[0])
 else if s.Count.N%3=0 then[0]
 else if s.Count.N%3=1 then(if p=true then[1]else[])++(if a=true then[2]else[])
 else(if p=true/\a=true then[3]else[])++(if t=true then[4]else[])
def rfLo(M:List Int)(n:Nat):Bool:=decide (0<n)&&(decide (M.getD (n-1) 0=2)||decide (M.getD (n-1) 0=3))
def rfA(u:Tm)(k:Int)(S:List Sgm)(l now:List Ite)(M:List Int)(n:Nat):List Int:=
 let s:=S.getD n default
 rfR (rfPo u k l now (rfLo M n) s) (rfAn u k l now s) (rfAt u k l s) s
def zxU{p a t:Bool}{s:Sgm}(h:s.Free=true\/s.Count.D=1):rfR p a t s=alR p a t s:=by
 have Z:=uS s.Count.N (show(3:Int)≠0 by omega);have V:=uD s.Count.N (show(0:Int)<3 by omega);unfold rfR alR;generalize s.Count.N%3=r at*
 have hr:r=0\/r=1\/r=2:=by omega
 cases hf:s.Free with
 |true=>all_goals grind
 |false=>
  have U:s.Count.D=1:=by simp_all
  rcases hr with rfl|rfl|rfl<;>simp[U]
def zmL{l now:List Ite}{s:Sgm}{k:Int}(hs:SgOk k l s)(hl:now.length=l.length)(h:∀i:Int,s.From<=i->itg now i=itg l i):itR now s=itR l s:=by
 unfold itR;have hf:=hs.f0;apply uI;intro i;rcases wD i (s.To.toNat-s.From.toNat)with h1|h1
 ·rw[uJ h1,uJ h1,wV,wV];have:=h ((s.From.toNat+i:Nat):Int) (by omega);unfold itg at this;rw[wN,jD,jD]at this;rcases wD (s.From.toNat+i) l.length with Z|Z
  ·rw[lgg (by omega),lgg Z]at this⊢;simpa using this
  ·rw[wF (by omega),wF Z]
 grind
def zrb:∀(t:Tm)(d:Tm)(r:List Tm),pfF t (d::r)=t::(smF t (d::r)).dropLast
 |t,d,[]=>rfl
 |t,d,e::r=>by
  have:=zrb (addV t d) e r;simp_all[pfF,smF]
def zmM:∀(t:Tm)(d:Tm)(r:List Tm),(smF t (d::r)).getLast?=some (sumA t (d::r))
 |t,d,[]=>rfl
 |t,d,e::r=>by
  have:=zmM (addV t d) e r;simp_all[smF,sumA]
theorem zrc{a t:Tm}(h:¬ckT a=0):¬subE a t=0:=λh1=>h (zty h1).1
def zxV{w:Tm}(Z:ckT w=0)(l:List Ite):w∈rlaL l↔w∈lasL l:=by
 unfold rlaL lasL;cases hl:drL l with
 |nil=>grind[fsL,pfF,smF]
 |cons d r=>
  have h1:(fsL l).getLast?=some (sumA ⟨0,1⟩ (d::r)):=by unfold fsL;rw[hl];exact zmM _ _ _
  have V:pfF ⟨0,1⟩ (d::r)=⟨0,1⟩::(fsL l).dropLast:=by unfold fsL;rw[hl];exact zrb _ _ _
  grind[zAo,zrc]
def zAy(u:Tm)(l:List Ite)(b:Tm):rcQ u (rlaL l) b=rcQ u (lasL l) b:=by
 unfold rcQ;by_cases h:addE b u=0;all_goals simp_all[zxV,zoD]
def zAz{u:Tm}{k:Int}{S:List Sgm}{l:List Ite}{M:List Int}{n:Nat}{st:List Ite×List (Int×Bool)}{s:Sgm}(hn:S[n]? =some s)(hs:SgOk k l s)(h:StaOk l S M n st):
 rfPo u k l st.1 (rfLo M n) s=poQ u k st.1 st.2 s:=by
 unfold rfPo poQ;rcases hs.lf with h1|⟨h1,Z,V,U⟩
 ·simp_all
 ·rw[jH (show¬s.Left<0 by omega)];obtain⟨l1,l2⟩:=h.left s hn h1;have hv:=(h.same s.Left h1).2.1;rw[zmL hs h.len (λi hi=>(h.rest s hn i hi).1),l1,l2,hv]
  grind[rfLo]
def zAA{u:Tm}{k:Int}{S:List Sgm}{l:List Ite}{M:List Int}{n:Nat}{st:List Ite×List (Int×Bool)}{s:Sgm}(hl:∀x∈l,0<=x.Cut)(hn:S[n]? =some s)(hs:SgOk k l s)(h:StaOk l S M n st):
 rfAn u k l st.1 s=anQ u k st.1 s:=by
 unfold rfAn anQ;rcases hs.rt with h1|⟨h1,U,T,N⟩
 ·simp_all
 ·have hf:=hs.ft;have Z:=hs.f0;rw[jH (show¬s.Right<0 by omega)];have e1:=(h.rest s hn s.Right (by omega)).1;have e2:=(h.rest s hn (s.Right+1) (by omega)).1
  have V:rfBl k l s.Right=blQ k st.1 s.Right:=by
   unfold rfBl blQ;rw[e1,e2,h.len]
   have J:0<=(itg l s.Right).Cut:=by
    unfold itg;rw[jD,lgg (by omega)];exact hl _ (uZ _)
   have:decide ((itg l s.Right).Cut=0)=!decide (0<(itg l s.Right).Cut):=by
    generalize(itg l s.Right).Cut=cc at*
    by_cases h0:cc=0
    ·subst h0;rfl
    ·rw[jH h0,jJ (show 0<cc by omega)];rfl
   rw[this];cases decide ((itg l s.Right).Value=k)<;>cases(!decide (0<(itg l s.Right).Cut))<;>cases decide (s.Right+1<(l.length:Int))<;>simp
  rw[zmL hs h.len (λi hi=>(h.rest s hn i hi).1),e1,V,zAy];all_goals grind
def zAB{u:Tm}{k:Int}{S:List Sgm}{l:List Ite}{M:List Int}{n:Nat}{st:List Ite×List (Int×Bool)}{s:Sgm}(hn:S[n]? =some s)(hs:SgOk k l s)(h:StaOk l S M n st):
 rfAt u k l s=atQ u k st.1 s:=by
 unfold rfAt atQ;by_cases Z:s.From=s.To
 ·simp[Z]
 ·have hf:=hs.ft;rw[(h.rest s hn (s.To-1) (by omega)).1]
  have hr:(decide (s.Right<0)||decide ((itg st.1 s.Right).Before.N=0))=(decide (s.Right<0)||decide ((itg l s.Right).Before.N=0)):=by
   rcases hs.rt with h1|⟨h1,V⟩
   ·simp_all
   ·rw[(h.rest s hn s.Right (by omega)).1]
  rw[hr,jH Z];cases s.Free<;>cases ntQ u k (itg l (s.To-1))<;>cases decide (s.Right<0)<;>cases decide ((itg l s.Right).Before.N=0)<;>rfl
def zlq{u:Tm}{k:Int}{S:List Sgm}{l:List Ite}{M:List Int}{n:Nat}(hl:∀x∈l,0<=x.Cut)(V:SgsOk k l S)(U:∀s∈S,s.Free=true\/s.Count.D=1)(hn:n<S.length)(hk:okJ u k S l M n=true):
 rfA u k S l (stK u S l M n).1 M n=alK u k S l M n:=by
 have Z:=zlm V n (by omega) hk;have hs:S[n]? =some S[n]:=lgg hn;have T:S.getD n default=S[n]:=by simp_all
 have hm:=j8 hs;unfold rfA alK alQ;simp only;rw[T];generalize S[n]=s at*
 rw[zAz hs (V.all s hm) Z,zAA hl hs (V.all s hm) Z,zAB hs (V.all s hm) Z,zxU (U s hm)]
end
section
attribute [local irreducible] Pur yy yz Ex X Fn Imp LeV LeB FnO It yH FnW FnOW
def zmN(d:Tm):∀(L:List Tm)(t:Tm),smF t (L++[d])=smF t L++[addV (sumA t L) d]
 |[],t=>rfl
 |x::r,t=>by
  show addV t x::smF (addV t x) (r++[d])=_;rw[zmN d r];rfl
def zko(d:Tm):∀(L:List Tm)(t:Tm),sumA t (L++[d])=addV (sumA t L) d
 |[],t=>rfl
 |x::r,t=>by
  show sumA (addV t x) (r++[d])=_;rw[zko d r];rfl
def zlr:∀(L:List Tm)(t:Tm),(smF t L).length=L.length
 |[],t=>rfl
 |x::r,t=>by simp only[smF,w8,zlr r]
def fsP(l:List Ite)(n:Nat):List Tm:=smF ⟨0,1⟩ ((drL l).take n)
def fsA(l:List Ite)(n:Nat):Tm:=sumA ⟨0,1⟩ ((drL l).take n)
def zAC(l:List Ite):[]=fsP l 0:=by unfold fsP;rw[vY];rfl
def zoQ(l:List Ite):[iv 0,iv 1]=tmE (fsA l 0):=by unfold fsA;rw[vY];rfl
def zrd{l:List Ite}{n:Nat}{x:Ite}(h:l[n]? =some x):tmE (addV (fsA l n) x.Dur)=tmE (fsA l (n+1))/\fsP l n++[addV (fsA l n) x.Dur]=fsP l (n+1)/\(fsP l n).length<=n:=by
 have Z:(drL l)[n]? =some x.Dur:=by unfold drL;rw[jN,h];rfl
 have ht:(drL l).take (n+1)=(drL l).take n++[x.Dur]:=by rw[jG,Z];rfl
 have e1:fsA l (n+1)=addV (fsA l n) x.Dur:=by unfold fsA;rw[ht,zko]
 refine⟨by rw[e1],?_,?_⟩
 ·unfold fsP fsA;rw[ht,zmN]
 ·unfold fsP;rw[zlr,jO];omega
def ztO(l:List Ite):fsP l l.length=fsL l:=by
 unfold fsP fsL;rw[wC (by unfold drL;simp)]
theorem zic(l:List Ite):(fsL l).length=l.length:=by unfold fsL;rw[zlr];unfold drL;simp
def laP(a:Tm)(L:List Tm)(n:Nat):List Tm:=a::(((L.take n).filter λt=>decide (subE a t=0)).map λt=>subV a t)
def zAD(a:Tm)(L:List Tm):[a]=laP a L 0:=by unfold laP;rw[vY];rfl
def zAE{a:Tm}{L:List Tm}{n:Nat}{t:Tm}(h:L[n]? =some t):(subE a t=0->laP a L n++[subV a t]=laP a L (n+1))/\(¬subE a t=0->laP a L n=laP a L (n+1))/\(laP a L n).length<=n+1:=by
 unfold laP;have ht:L.take (n+1)=L.take n++[t]:=by rw[jG,h];rfl
 refine⟨λh0=>?_,λh0=>?_,?_⟩
 ·rw[ht,uF];simp[h0]
 ·rw[ht,uF];simp[h0]
 ·simp only[w8,jS];have:=wZ (λt=>decide (subE a t=0)) (L.take n);rw[jO]at this;omega
def ztP{l:List Ite}(h:(fsL l).length=0):[]=lasL l:=by
 have:fsL l=[]:=jR h;unfold lasL;rw[this];rfl
def ztQ{l:List Ite}{a:Tm}(h:(fsL l)[(fsL l).length-1]? =some a):laP a ((fsL l).take (((fsL l).length:Int)-1).toNat) ((fsL l).take (((fsL l).length:Int)-1).toNat).length=lasL l:=by
 rw[show(((fsL l).length:Int)-1).toNat=(fsL l).length-1 by omega];have h1:(fsL l).getLast?=some a:=by rw[List.getLast?_eq_getElem?];exact h
 unfold lasL;rw[h1];unfold laP;rw[jK,List.dropLast_eq_take]
structure SgB(n:Nat)(s:Sgm):Prop where
 f0:0<=s.From
 ft:s.From<=s.To
 tn:s.To<=n
 lf:s.Left<n
 rt:s.Right<n
def SgOk.b{k:Int}{l:List Ite}{s:Sgm}(h:SgOk k l s):SgB l.length s:=⟨h.f0,h.ft,h.tl,by have:=h.ft;have:=h.tl;rcases h.lf with h|h<;>omega,by rcases h.rt with h|h<;>omega⟩
attribute [local irreducible] fsL fsP fsA lasL laP cmpV addV addE subV subE drL
def zfE(l:List Ite)(hl:l.length<=1000000):Fn prog 307 [itsA l] (tmsA (fsL l)):=by
 have N:=zAC l;have Z:=zoQ l;refine kR func307 ntmps307 (λg w d=>?_);apply ye;refine ya ?_;apply yE;refine yj ?_;apply yh;refine kT (yG tmE 61 2 3 200 rfl rfl) ?_;apply yf;refine ya ?_;refine za ?_;refine kV ?_;apply kW;apply yh;apply ye;refine yC ?_;apply kP;refine zm (λn=>[(3,.own 200),(4,.ptr 4 0 0 0),(8,itsA l),(9,iv l.length),(10,iv (n:Int))]) (λn=>[(4,.box (tmE (fsA l n)) 61),(200,.row tmE (fsP l n) 61 2)]) l.length (λn hk=>?_) (h0:=by exact bL (by(repeat'(first|exact True.intro|(refine And.intro ⟨_,rfl,?_⟩ ?_;(first|exact kX _|exact bR _|exact bD _|(refine kO ?_;simp;done)|(refine kO ?_;congr 1;omega)|(refine kO ?_;dsimp only;congr 1;omega)|(refine kO (j9 (AV.int _) ?_);omega)|exact bB _|exact bM (by assumption)|(refine bG ?_;congr 1;omega)|(refine bG ?_;congr 1;simp only[cond_true,cond_false];omega)))))) (by(repeat'(first|exact True.intro|(refine And.intro ⟨_,rfl,?_⟩ ?_;(first|exact bD _|exact bM (by assumption)|exact bG (j9 (λz=>Blk.box z 61) Z)|exact bG (j9 (λz=>Blk.box z 61) V)))))));refine gd ?_ ?_<;>intro J
 ·have U:=@getX _ l n (by omega);obtain⟨x,hx,H⟩:=U;have T:=zrd hx;obtain⟨V,G,E⟩:=T;refine gc (zbl (fsA l n) x.Dur) ?_;refine yD tmE [addV (fsA l n) x.Dur] ?_;refine gq ?_;refine yu (n+1) (hI:=bL (by(repeat'(first|exact True.intro|(refine And.intro ⟨_,rfl,?_⟩ ?_;(first|exact kX _|exact bR _|exact bD _|(refine kO ?_;simp;done)|(refine kO ?_;congr 1;omega)|(refine kO ?_;dsimp only;congr 1;omega)|(refine kO (j9 (AV.int _) ?_);omega)|exact bB _|exact bM (by assumption)|(refine bG ?_;congr 1;omega)|(refine bG ?_;congr 1;simp only[cond_true,cond_false];omega)))))) (by(repeat'(first|exact True.intro|(refine And.intro ⟨_,rfl,?_⟩ ?_;(first|exact bD _|exact bM (by assumption)|exact bG (j9 (λz=>Blk.box z 61) Z)|exact bG (j9 (λz=>Blk.box z 61) V)))))))
 ·have hn:n=l.length:=by omega
  subst hn;have he:=ztO l;apply bA;apply yh;refine kT (kL (k:=200) rfl) ?_;refine gq ?_;all_goals(first|exact j9 (λz=>tmsA z) he|exact zE he)
def zgF(l:List Ite)(hl:l.length<=1000000):Fn prog 308 [itsA l] (tmsA (lasL l)):=by
 have H:=zic l;refine kR func308 ntmps308 (λg w d=>?_);refine gc (zfE l hl) ?_;refine gd ?_ ?_<;>intro G
 ·have he:=ztP (l:=l) (by omega);apply ye;refine yj ?_;refine kQ ?_;refine kM (yd (ts:=[(2,tmsA [])]) (hs:=[])) ?_;refine gq ?_;all_goals(first|exact j9 (λz=>tmsA z) he|(rw[←he];done))
 obtain⟨a,J⟩:∃a,(fsL l)[(fsL l).length-1]? =some a:=⟨_,lgg (by omega)⟩;have E:(fsL l)[((fsL l).length-1:Int).toNat]? =some a:=by rw[show((fsL l).length-1:Int).toNat=(fsL l).length-1 by omega];exact J
 have xT:=zAD a ((fsL l).take (((fsL l).length:Int)-1).toNat);have x4:((fsL l).take (((fsL l).length:Int)-1).toNat).length<=l.length:=by rw[jO];omega
 refine gq ?_;refine yD tmE [a] ?_;refine gq ?_
 first
  |refine zo (zcB rfl rfl rfl sl38 ty61 (by omega) (by omega)) rfl ?_
  |refine zo (zdi rfl rfl sl38 ty61 (λ_=>rfl) (by omega) (by omega)) rfl ?_
 refine yQ ?_;apply kP;refine zm (λn=>[(4,.ptr 4 0 0 0),(5,.own 22),(27,tmsA ((fsL l).take (((fsL l).length:Int)-1).toNat)),(28,iv ((fsL l).take (((fsL l).length:Int)-1).toNat).length),(29,iv (n:Int))]) (λn=>[(4,.box (tmE a) 61),(22,.row tmE (laP a ((fsL l).take (((fsL l).length:Int)-1).toNat) n) 61 2)]) (((fsL l).take (((fsL l).length:Int)-1).toNat).length) (λn hk=>?_);refine gd ?_ ?_<;>intro x3
 ·have T:=@getX _ ((fsL l).take (((fsL l).length:Int)-1).toNat) n (by omega);obtain⟨t,ht,x2⟩:=T;have N:=zAE (a:=a) ht;obtain⟨Z,V,x1⟩:=N;refine gc (zcU a t) ?_;refine gd ?_ ?_<;>intro U
  ·have Z:=Z U;refine gq ?_;refine yD tmE [subV a t] ?_;refine gq ?_;refine yu (n+1) (hI:=yg)
  ·have V:=V U;refine gq ?_;refine yu (n+1) (hI:=yg)
 ·have hn:n=((fsL l).take (((fsL l).length:Int)-1).toNat).length:=by omega
  subst hn;have he:=ztQ J;apply bA;apply yh;refine kT (kL (k:=22) rfl) ?_;refine gq ?_;all_goals(first|exact j9 (λz=>tmsA z) he|exact zE he)
def zbi(l:List Ite)(k:Int)(u:Tm)(b:Nat)(x:Ite):Fn prog 305 [.ept (λ_:Unit=>[.sl itE l,iv k,iv u.N,iv u.D,.val (.map (some b))]) () 0,itA x] (.bool (lgQ u x)):=by
 refine kR func305 ntmps305 (λg w d=>?_);refine gq ?_;refine yW [5,6,7,8,9,10,11,12,13,14,15,16] [0,1,0,4,12,28,63,127,255,255,511,2047] mo ?_;iterate 6 refine yb ?_
 refine yO (zjh x.Dur u) ?_;iterate 5 refine yb ?_
 refine yI ?_;refine gq ?_;all_goals rfl
def za5(l:List Ite)(k:Int)(u:Tm)(b:Nat)(S:List Tm)(t:Tm)(Z:S.length<=2000000):Fn prog 306 [.ept (λ_:Unit=>[.sl itE l,iv k,iv u.N,iv u.D,.val (.map (some b))]) () 0,tmsA S,tmA t] (.bool (rcQ u S t)):=by
 refine kR func306 ntmps306 (λg w d=>?_);refine gq ?_;refine yW [7,9,10,11,12,13,14,15,16,17] [0,0,2,6,14,31,63,127,127,0,767,2047] mo ?_;iterate 5 refine yb ?_
 refine yO (zbl t u) ?_;iterate 3 refine yb ?_
 refine ChM.step rfl rfl rfl (zp (k:=7) zc61) rfl ?_;refine ChM.lt 8 ?_ ?_
 ·refine kV ?_;refine ya ?_;apply yE;iterate 2 refine ya ?_
  refine kU 2 ?_;refine gq ?_;refine bJ (zq S (addV t u) (by omega)) ?_;refine ge ?_;all_goals rfl
 ·refine kV ?_;iterate 2 refine ya ?_
  apply yE;iterate 2 refine ya ?_
  refine kU 2 ?_;refine gq ?_;refine bJ (zq S (addV t u) (by omega)) ?_;refine ge ?_;all_goals rfl
end
end Go.Rse
