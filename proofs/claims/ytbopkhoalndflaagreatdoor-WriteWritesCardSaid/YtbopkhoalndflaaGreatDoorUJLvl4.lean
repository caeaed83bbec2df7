/-
  Walks.
-/
import Derived.Test.YtbopkhoalndflaaGreatDoorUJLev1
set_option linter.all false
namespace Go.Rse
open Go Go.Proofs Go.Proofs.Tryz
section
attribute [local irreducible] Pur yA yC Ex X Fn Imp LeV LeB FnO It yH
def lesE(e h:Int)(t d:Tm):Int:=if e=0/\0<=h then lsE t d else e
def lesT(e h:Int)(t d:Tm):Tm:=if e=0/\0<=h then subV t d else t
theorem zsT{t d:Tm}{h:Int}:(cn1 t h d).2=lesE 0 h t d/\((cn1 t h d).2=0->(cn1 t h d).1=lesT 0 h t d):=by
 grind[cn1,lesE,lesT]
def zwx{l:List Ite}{s:Sgm}(h:(cnA l s).2=0):
 (cnC l s).2=lesE (lesE (cnA l s).2 s.Left (cnA l s).1 (itg l s.Left).After) s.Right (lesT (cnA l s).2 s.Left (cnA l s).1 (itg l s.Left).After) (itg l s.Right).Before∧
 ((cnC l s).2=0->(cnC l s).1=lesT (lesE (cnA l s).2 s.Left (cnA l s).1 (itg l s.Left).After) s.Right (lesT (cnA l s).2 s.Left (cnA l s).1 (itg l s.Left).After) (itg l s.Right).Before):=by
 grind[cnB,cnC,zsT,lesE]
def zqF{u:Tm}{l:List Ite}{s:Sgm}(h:¬(cnA l s).2=0):cnE u l s=(cnA l s).2/\cnV u l s=tmZ:=by
 simp_all[cnB,cnC,cnE,cnV]
def zqG{u:Tm}{l:List Ite}{s:Sgm}(h:¬(cnC l s).2=0):cnE u l s=(cnC l s).2/\cnV u l s=tmZ:=by
 simp_all[cnE,cnV]
def zqH{u:Tm}{l:List Ite}{s:Sgm}(h:(cnC l s).2=0):cnE u l s=divE (cnC l s).1 u/\cnV u l s=divV (cnC l s).1 u:=by
 simp_all[cnE,cnV]
def zyQ{l:List Ite}{s:Sgm}(hl:∀x∈l,itF x=0):sumE (drL (itR l s))=(cnA l s).2/\sumV (drL (itR l s))=(cnA l s).1:=by
 have hf:∀L:List Tm,(∀t∈L,ckT t=0)->yK L=0:=by
  intro L
  induction L with
  |nil=>intro _;rfl
  |cons t r ih=>intro h;simp only[yK];rw[j4 (h t (by simp))];exact ih λx hx=>h x (wQ _ hx)
 have h0:yK (drL (itR l s))=0:=hf _ λt ht=>by
  unfold drL itR at ht;obtain⟨x,hx,rfl⟩:=jX.1 ht;exact(zhs (hl x (List.mem_of_mem_drop (List.mem_of_mem_take hx)))).2.1
 simp_all[sumE,sumV,cnA]
def zqI{L:List Ite}{k:Nat}{x:Ite}(h:L[k]? =some x):drL (L.take k)++[x.Dur]=drL (L.take (k+1)):=by
 simp_all[drL,jA]
def zsU{l:List Ite}{s:Sgm}{k:Int}(hs:SgOk k l s):((itR l s).length:Int)=s.To-s.From:=by
 unfold itR;have:=hs.f0;have:=hs.ft;have:=hs.tl
 grind
def sgP(u:Tm)(l:List Ite)(L:List Sgm)(n:Nat):List Sgm:=(L.take n).map (segW u l)++L.drop n
def zyR(u:Tm)(l:List Ite)(L:List Sgm):L=sgP u l L 0:=rfl
def zsV(u:Tm)(l:List Ite)(L:List Sgm)(n:Nat):(sgP u l L n).length=L.length:=by
 grind[sgP]
def zwy{u:Tm}{l:List Ite}{L:List Sgm}{n:Nat}{s:Sgm}(h:L[n]? =some s):(sgP u l L n)[n]? =some s/\(sgP u l L n).set n (segW u l s)=sgP u l L (n+1):=by
 have Z:=(j1.1 h).1;have hl:((L.take n).map (segW u l)).length=n:=by rw[jO,jL];omega
 grind[sgP,List.set_append_right,List.drop_eq_getElem_cons]
theorem zsW(u:Tm)(l:List Ite)(L:List Sgm):sgP u l L L.length=L.map (segW u l):=by
 simp[sgP]
def zqJ{u:Tm}{l:List Ite}{s:Sgm}(h:¬cnE u l s=0):segR u l s=cnE u l s:=by unfold segR;rw[j3 h]
attribute [local irreducible] sgP subV subE lsE lesE lesT cnA cnC divE divV sumE sumV
def zd9(x:Ite):Fn prog 350 [itA x] (tmA x.After):=by
 refine kC func350 ntmps350 (λg w d=>?_);refine gq ?_;refine kH (.one (.cellA rfl rfl rfl rfl ty83 (kB ?_)));rfl
def zea(x:Ite):Fn prog 351 [itA x] (tmA x.Before):=by
 refine kC func351 ntmps351 (λg w d=>?_);refine gq ?_;refine kH (.one (.cellA rfl rfl rfl rfl ty83 (kB ?_)));rfl
def zbM(l:List Ite)(h e:Int)(t:Tm)(fp:FuncId)(d1:Ite->Tm)(hf:∀x,Fn prog fp [itA x] (tmA (d1 x)))(N:h<l.length):FnO prog 349 [iv h,.fn fp [],.ptr 2000000 0 0 0,.ptr 2000001 0 0 0,.ptr 2000002 0 0 0] [(2000000,.box [iv e] 28),(2000001,.box (tmE t) 83),(2000002,.box [itsA l] 332)] [2000000,2000001,2000002] (.tup []) [(2000000,.box [iv (lesE e h t (d1 (itg l h)))] 28),(2000001,.box (tmE (lesT e h t (d1 (itg l h)))) 83),(2000002,.box [itsA l] 332)]:=by
 refine kW (ts:=[(0,iv h),(1,.fn fp []),(2,.ptr 2000000 0 0 0),(3,.ptr 2000001 0 0 0),(4,.ptr 2000002 0 0 0)]) (rv:=[]) (n:=27) (cs:=[.ptr 2000000 0 0 0,.ptr 2000001 0 0 0,.ptr 2000002 0 0 0]) (by kernel_rfl) func349 rfl ntmps349 rfl rfl (by simp) rfl rfl rfl rfl (λg w d vs=>?_);apply yf;apply ye;iterate 2 refine ya ?_
 refine kG 2 ?_;refine yn ?_;iterate 2 refine kF ?_
 refine gf ?_ ?_<;>intro U
 ·have hE:e=lesE e h t (d1 (itg l h)):=by grind[lesE]
  have V:t=lesT e h t (d1 (itg l h)):=by grind[lesT]
  refine kE ?_;rw[←hE,←V];refine zkU.mk [] [] (.inr rfl) (.many (by decide) .nil);all_goals rfl
 have hE:lsE t (d1 (itg l h))=lesE e h t (d1 (itg l h)):=by simp_all[lesE]
 have V:subV t (d1 (itg l h))=lesT e h t (d1 (itg l h)):=by simp_all[lesT]
 refine gq ?_;refine yQ [13,14,15,16,17,18,19,20,21,22,23,24] [0,0,0,4,0,28,60,126,255,511,1023,1023,2047,8191] mo ?_;iterate 7 refine yb ?_
 refine yI (hf (itg l h)) ?_;refine yI (zda t (d1 (itg l h))) ?_;iterate 3 refine yb ?_
 refine ChM.lt 11 ?_ ?_
 ·refine gd ?_ ?_<;>intro T
  ·have Z:(14:Int)=lesE e h t (d1 (itg l h)):=by simp_all[lsE]
   apply yj;refine kI ?_;apply kL;rw[←Z,←V];refine zkU.mk [] [] (.inl rfl) (.many (by decide) .nil);all_goals rfl
  ·have Z:subE t (d1 (itg l h))=lesE e h t (d1 (itg l h)):=by simp_all[lsE]
   apply yl;rw[←Z,←V];refine zkU.mk [] [] (.inl rfl) (.many (by decide) .nil);all_goals rfl
 ·refine gd ?_ ?_<;>intro Q
  ·have Z:(14:Int)=lesE e h t (d1 (itg l h)):=by simp_all[lsE]
   apply yj;refine kI ?_;apply kL;rw[←Z,←V];refine zkU.mk [] [] (.inl rfl) (.many (by decide) .nil);all_goals rfl
  ·have Z:subE t (d1 (itg l h))=lesE e h t (d1 (itg l h)):=by simp_all[lsE]
   apply yl;rw[←Z,←V];refine zkU.mk [] [] (.inl rfl) (.many (by decide) .nil);all_goals rfl
set_option maxHeartbeats 4000000 in
def zeR(l:List Ite)(s:Sgm)(u:Tm)(k:Int)(hs:SgOk k l s)(I:∀x∈l,itF x=0)(hl:l.length<=1000000):Fn prog 329 [.agg [itsA l],smA s,tmA u] (.tup [tmA (cnV u l s),iv (cnE u l s)]):=by
 have f0:=hs.f0;have ft:=hs.ft;have tl:=hs.tl;have H:=zsU hs;have E:=zyQ (s:=s) I;have N:s.Left<l.length:=by rcases hs.lf with h|h<;>omega
 have J:s.Right<l.length:=by rcases hs.rt with h|h<;>omega
 have T:Fn prog 348 [tmsA (drL ((itR l s).take (itR l s).length))] (.tup [tmA (cnA l s).1,iv (cnA l s).2]):=by
  grind[znC,drL]
 have xT:[]=drL ((itR l s).take 0):=by rfl
 refine kC func329 ntmps329 (λg w d=>?_);apply ye;iterate 3 refine zZ ?_
 refine zb ?_;refine ya ?_;apply yG;refine yi ?_;iterate 2 apply yf
 refine kJ (yE tmE 83 2 8 200 rfl rfl) ?_;apply yj;iterate 6 refine ya ?_
 refine zak (zdE rfl rfl rfl zh4 zkW (λ_=>rfl) (by omega) (by omega) (by omega)) rfl ?_;refine yL ?_;apply kA;refine ze (λn=>[(3,.ptr 3 0 0 0),(4,.ptr 4 0 0 0),(5,.ptr 5 0 0 0),(6,.ptr 6 0 0 0),(8,.own 200),(20,itsA (itR l s)),(21,iv (itR l s).length),(22,iv (n:Int))]) (λn=>[(3,.box [itsA l] 332),(4,.box (smE s) 317),(5,.box (tmE u) 83),(6,.box [iv 0,iv 0] 83),(200,.row tmE (drL ((itR l s).take n)) 83 2)]) ((itR l s).length) (λn hk=>?_) (h0:=yd);refine gd ?_ ?_<;>intro x4
 ·obtain⟨x,hx⟩:∃x,(itR l s)[n]? =some x:=⟨_,lgg (by omega)⟩;have x3:(itR l s)[(n:Int).toNat]? =some x:=by simpa using hx
  have x2:=zqI hx;have x1:(drL ((itR l s).take n)).length<=1000000:=by unfold drL;simp;omega
  refine gq ?_;refine yz tmE [⟨_,_⟩] ?_;refine gq ?_;refine yo (n+1)
 ·have hn:n=(itR l s).length:=by omega
  subst hn;apply kK;apply yf;refine kJ (k9 (k:=200) rfl) ?_;refine gc T ?_;refine gd ?_ ?_<;>intro V
  ·have hE:=(zqF (u:=u) V).1;have U:=(zqF (u:=u) V).2;apply yf;refine yQ [39,40] [0,0,1,7] mo ?_;(iterate 2 refine yb ?_);refine ChM.lt 1 ?_ ?_
   ·refine gq ?_;refine yD ty83 ?_ ?_;all_goals(first|exact zE hE|exact zE U)
   ·refine gq ?_;refine yD ty83 ?_ ?_;all_goals(first|exact zE hE|exact zE U)
  have Z:=zwx V;refine gq ?_;refine zai [(2000000,12),(2000001,11),(2000002,3)] (zbM l s.Left (cnA l s).2 (cnA l s).1 350 (λx=>x.After) zd9 N) ?_;refine gq ?_;refine zai [(2000000,12),(2000001,11),(2000002,3)] (zbM l s.Right (lesE (cnA l s).2 s.Left (cnA l s).1 (itg l s.Left).After) (lesT (cnA l s).2 s.Left (cnA l s).1 (itg l s.Left).After) 351 (λx=>x.Before) zea J) ?_;refine gd ?_ ?_<;>intro Q
  ·have h0:¬(cnC l s).2=0:=by rw[Z.1];exact Q
   have hE:=(zqG (u:=u) h0).1;have U:=(zqG (u:=u) h0).2;rw[Z.1]at hE;apply yf;refine yQ [52,53] [0,0,1,7] mo ?_;(iterate 2 refine yb ?_);refine ChM.lt 1 ?_ ?_
   ·refine gq ?_;refine yD ty83 ?_ ?_;all_goals(first|exact zE hE|exact zE U)
   ·refine gq ?_;refine yD ty83 ?_ ?_;all_goals(first|exact zE hE|exact zE U)
  have h0:(cnC l s).2=0:=by rw[Z.1];exact Q
  have hE:=(zqH (u:=u) h0).1;have U:=(zqH (u:=u) h0).2;rw[Z.2 h0]at hE U;refine gc (znm (lesT (lesE (cnA l s).2 s.Left (cnA l s).1 (itg l s.Left).After) s.Right (lesT (cnA l s).2 s.Left (cnA l s).1 (itg l s.Left).After) (itg l s.Right).Before) u) ?_;refine yD ty83 ?_ ?_;all_goals grind[setAt,tmE]
set_option maxHeartbeats 4000000 in
def zce(m:Mn)(k:Int)(l:List Ite)(h0:-9223372036854775808<=k)(h1:k<=9223372036854775807)(hl:l.length<=1000000):Fn prog 297 [mnA m,iv k,itsA l] (.tup [smsA (segV m k l),iv (segE m k l)]):=by
 have hok:=zld k l;have x1:=zyR (unT m k) l (sgs0 l (bds k l));have xT:=zqt k l (bds k l).length;rw[j9]at xT;refine kC func297 ntmps297 (λg w d=>?_);refine gc (zgL m k h0 h1) ?_;refine gd ?_ ?_<;>intro V
 ·have hE:segE m k l=unE m k:=by unfold segE;rw[j3 V]
  have U:[]=segV m k l:=by unfold segV;rw[j3 (by rw[hE];exact V)]
  apply ye;refine yq ?_;refine kE ?_;refine k8 (yd (ts:=[(6,smsA []),(7,iv (unE m k))]) (hs:=[])) ?_;refine yh ?_ ?_;all_goals grind
 have hU:unE m k=0:=V;refine gc (zfU l (by omega)) ?_;refine gd ?_ ?_<;>intro T
 ·have hE:segE m k l=ckIE l:=by unfold segE;rw[j4 hU,j3 T]
  have U:[]=segV m k l:=by unfold segV;rw[j3 (by rw[hE];exact T)]
  apply ye;refine yq ?_;refine kE ?_;refine k8 (yd (ts:=[(6,smsA []),(7,iv (ckIE l))]) (hs:=[])) ?_;refine yh ?_ ?_;all_goals grind
 have hK:ckIE l=0:=T;have hP:=zcZ hK;have N:segE m k l=segX (unT m k) l (sgs0 l (bds k l)):=by grind[segE]
 refine gq ?_;refine zai [(39,39)] (zev l k hl) ?_;refine gq ?_
 refine zcw (ι:=Nat) (λ(n:Nat)=>[(8,.ptr 8 0 0 0),(12,.ptr 12 0 0 0),(13,.own 39),(40,iv (sgs0 l (bds k l)).length),(41,iv (n:Int))]) (λ(n:Nat)=>[(8,.box (tmE (unT m k)) 83),(12,.box [itsA l] 332),(39,.row smE (sgP (unT m k) l (sgs0 l (bds k l)) n) 317 7)]) (λ(n:Nat)=>n<=(sgs0 l (bds k l)).length/\segX (unT m k) l (sgs0 l (bds k l))=segX (unT m k) l ((sgs0 l (bds k l)).drop n)) (λ(n:Nat)=>(sgs0 l (bds k l)).length-n) 0 (λn hk=>?_) (hJ:=by
  simp) (h0:=by exact yg)
 obtain⟨x0,J⟩:=hk;refine gd ?_ ?_<;>intro w2
 ·obtain⟨s,hs⟩:∃s,(sgs0 l (bds k l))[n]? =some s:=⟨_,lgg (by omega)⟩;have x4:=hok.all s (j5 hs);have v9:=zsV (unT m k) l (sgs0 l (bds k l)) n;have I:=zwy (u:=unT m k) (l:=l) hs;have H:=I.1;have v8:=I.2;have E:(sgP (unT m k) l (sgs0 l (bds k l)) n)[(n:Int).toNat]? =some s:=by simpa using H
  refine gq ?_;refine yQ [15,44,45,46,47,48,49,50,51,52,53] [0,0,0,6,14,0,63,127,255,255,0,1535,4095] mo ?_;iterate 4 refine yb ?_
  refine yb ?_ (hs:=by exact zff rfl rfl E rfl rfl TyK.h);refine yb ?_;refine yI (zeR l s (unT m k) k x4 hP hl) ?_;iterate 3 refine yb ?_
  refine ChM.step rfl rfl rfl (zw (k:=15) zc83) rfl ?_;refine zb3 9 ⟨[(8,.ptr 8 0 0 0),(12,.ptr 12 0 0 0),(13,.own 39),(40,iv (sgs0 l (bds k l)).length),(41,iv (n:Int)),(14,iv (n:Int)),(15,.ptr 15 0 0 0),(16,iv (cnE (unT m k) l s))],[(8,.box (tmE (unT m k)) 83),(12,.box [itsA l] 332),(39,.row smE (sgP (unT m k) l (sgs0 l (bds k l)) n) 317 7),(15,.box (tmE (cnV (unT m k) l s)) 83)]⟩ (λQ hQ=>?_) (λQ hQ=>?_) ?_
  ·refine kI ?_;refine ya ?_;exact kR yg hQ
  ·refine kI ?_;(iterate 2 refine ya ?_);exact kR yg hQ
  refine gd ?_ ?_<;>intro Z
  ·have hR:=zqJ Z;have hE:segE m k l=cnE (unT m k) l s:=by rw[N,J,zdS hs,hR,j3 Z]
   have U:[]=segV m k l:=by unfold segV;rw[j3 (by rw[hE];exact Z)]
   apply ye;refine yq ?_;refine kE ?_;refine k8 (yd (ts:=[(6,smsA []),(7,iv (cnE (unT m k) l s))]) (hs:=[])) ?_;refine yh ?_ ?_;all_goals grind
  have x3:cnE (unT m k) l s=0:=Z;apply yl;apply yf;apply ye;iterate 6 refine ya ?_
  refine kG 6 ?_;refine yn ?_;iterate 3 refine kF ?_
  refine gf ?_ ?_<;>intro x2
  ·have hR:segR (unT m k) l s=14:=by unfold segR;rw[j4 x3,j4 x2]
   have hE:segE m k l=14:=by rw[N,J,zdS hs,hR,j3 (by decide)]
   have U:[]=segV m k l:=by unfold segV;rw[j3 (by rw[hE];decide)]
   apply ye;refine yL ?_;refine kE ?_;refine k8 (yd (ts:=[(6,smsA []),(7,iv 14)]) (hs:=[])) ?_;refine yh ?_ ?_;all_goals grind
  have hR:segR (unT m k) l s=0:=by grind[segR]
  apply yl;apply yj;iterate 5 refine ya ?_
  refine kI (hs:=y7 (n:=2) s (segW (unT m k) l s) rfl rfl H (λ_=>rfl) (by decide) rfl rfl rfl (by decide) rfl rfl rfl TyK.h) ?_;refine gq ?_
  refine yo (n+1) (hJ:=by
   grind[zdS]) (hI:=yg)
 ·have hn:n=(sgs0 l (bds k l)).length:=by omega
  subst hn;have hE:segE m k l=0:=by rw[N,J,wO];rfl
  have U:sgP (unT m k) l (sgs0 l (bds k l)) (sgs0 l (bds k l)).length=segV m k l:=by grind[segV,zsW]
  apply kK;apply ye;refine yq ?_;refine kE ?_;refine k8 (k9 (k:=39) rfl) ?_;refine yh ?_ ?_;all_goals(first|(rw[←U];done)|exact zE hE|exact j6 (λz=>smsA z) U|(rw[←U];rfl))
end
section
def pfF:Tm->List Tm->List Tm
 |_,[]=>[]
 |t,d::r=>t::pfF (addV t d) r
def sumA:Tm->List Tm->Tm
 |t,[]=>t
 |t,d::r=>sumA (addV t d) r
def rlaL(l:List Ite):List Tm:=((pfF ⟨0,1⟩ (drL l)).filter λt=>decide (subE (sumA ⟨0,1⟩ (drL l)) t=0)).map λt=>subV (sumA ⟨0,1⟩ (drL l)) t
def rfPo(u:Tm)(k:Int)(l now:List Ite)(lo:Bool)(s:Sgm):Bool:=
 !(decide (s.Left<0)||!lgQ u (itg now s.Left))&&(!(lo&&decide ((itg l s.Left).Value=k))&&rcQ u (fsL (itR l s)) (itg l s.Left).After)
def rfBl(k:Int)(l:List Ite)(h:Int):Bool:=
 decide ((itg l h).Value=k)&&decide ((itg l h).Cut=0)&&decide (h+1<l.length)&&!(itg l (h+1)).Color&&decide ((itg l (h+1)).Value=k)
def rfAn(u:Tm)(k:Int)(l now:List Ite)(s:Sgm):Bool:=
 !(decide (s.Right<0)||!lgQ u (itg now s.Right))&&(!rfBl k l s.Right&&rcQ u (rlaL (itR l s)) (itg l s.Right).Before)
def rfAt(u:Tm)(k:Int)(l:List Ite)(s:Sgm):Bool:=
 !(decide (s.From=s.To)||s.Free||(!decide (s.Right<0)&&!decide ((itg l s.Right).Before.N=0)))&&ntQ u k (itg l (s.To-1))
def rfR(p a t:Bool)(s:Sgm):List Int:=
 if s.Free=true then(if s.Count.D=1/\s.Count.N%3=1/\p=true then[0,1]else[0])
 else if s.Count.N%3=0 then[0]
 else if s.Count.N%3=1 then(if p=true then[1]else[])++(if a=true then[2]else[])
 else(if p=true/\a=true then[3]else[])++(if t=true then[4]else[])
def rfLo(M:List Int)(n:Nat):Bool:=decide (0<n)&&(decide (M.getD (n-1) 0=2)||decide (M.getD (n-1) 0=3))
def rfA(u:Tm)(k:Int)(S:List Sgm)(l now:List Ite)(M:List Int)(n:Nat):List Int:=
 let s:=S.getD n default
 rfR (rfPo u k l now (rfLo M n) s) (rfAn u k l now s) (rfAt u k l s) s
def zwz{p a t:Bool}{s:Sgm}(h:s.Free=true\/s.Count.D=1):rfR p a t s=alR p a t s:=by
 have Z:=vD s.Count.N (show(3:Int)≠0 by omega);have V:=uN s.Count.N (show(0:Int)<3 by omega);unfold rfR alR;generalize s.Count.N%3=r at*
 have hr:r=0\/r=1\/r=2:=by omega
 cases hf:s.Free with
 |true=>all_goals grind
 |false=>
  have U:s.Count.D=1:=by simp_all
  rcases hr with rfl|rfl|rfl<;>simp[U]
def zmv{l now:List Ite}{s:Sgm}{k:Int}(hs:SgOk k l s)(hl:now.length=l.length)(h:∀i:Int,s.From<=i->itg now i=itg l i):itR now s=itR l s:=by
 unfold itR;have hf:=hs.f0;apply uW;intro i;rcases wD i (s.To.toNat-s.From.toNat)with Z|Z
 ·rw[wN Z,wN Z,w7,w7];have:=h ((s.From.toNat+i:Nat):Int) (by omega);unfold itg at this;rw[wC,j8,j8]at this;rcases wD (s.From.toNat+i) l.length with V|V
  ·rw[lgg (by omega),lgg V]at this⊢;simpa using this
  ·rw[wT (by omega),wT V]
 grind
def zqK:∀(t:Tm)(d:Tm)(r:List Tm),pfF t (d::r)=t::(smF t (d::r)).dropLast
 |t,d,[]=>rfl
 |t,d,e::r=>by
  have:=zqK (addV t d) e r;simp_all[pfF,smF]
def zmw:∀(t:Tm)(d:Tm)(r:List Tm),(smF t (d::r)).getLast?=some (sumA t (d::r))
 |t,d,[]=>rfl
 |t,d,e::r=>by
  have:=zmw (addV t d) e r;simp_all[smF,sumA]
theorem zqL{a t:Tm}(h:¬ckT a=0):¬subE a t=0:=λZ=>h (zsF Z).1
def zwA{w:Tm}(Z:ckT w=0)(l:List Ite):w∈rlaL l↔w∈lasL l:=by
 unfold rlaL lasL;cases hl:drL l with
 |nil=>grind[fsL,pfF,smF]
 |cons d r=>
  have V:(fsL l).getLast?=some (sumA ⟨0,1⟩ (d::r)):=by unfold fsL;rw[hl];exact zmw _ _ _
  have U:pfF ⟨0,1⟩ (d::r)=⟨0,1⟩::(fsL l).dropLast:=by unfold fsL;rw[hl];exact zqK _ _ _
  grind[zyz,zqL]
def zyS(u:Tm)(l:List Ite)(b:Tm):rcQ u (rlaL l) b=rcQ u (lasL l) b:=by
 unfold rcQ;by_cases h:addE b u=0;all_goals simp_all[zwA,zsE]
def zyT{u:Tm}{k:Int}{S:List Sgm}{l:List Ite}{M:List Int}{n:Nat}{st:List Ite×List (Int×Bool)}{s:Sgm}(V:S[n]? =some s)(hs:SgOk k l s)(h:StaOk l S M n st):
 rfPo u k l st.1 (rfLo M n) s=poQ u k st.1 st.2 s:=by
 unfold rfPo poQ;rcases hs.lf with Z|⟨Z,U,T,Q⟩
 ·simp_all
 ·rw[jD (show¬s.Left<0 by omega)];obtain⟨l1,l2⟩:=h.left s V Z;have hv:=(h.same s.Left Z).2.1;rw[zmv hs h.len (λi hi=>(h.rest s V i hi).1),l1,l2,hv]
  grind[rfLo]
def zyU{u:Tm}{k:Int}{S:List Sgm}{l:List Ite}{M:List Int}{n:Nat}{st:List Ite×List (Int×Bool)}{s:Sgm}(hl:∀x∈l,0<=x.Cut)(Z:S[n]? =some s)(hs:SgOk k l s)(h:StaOk l S M n st):
 rfAn u k l st.1 s=anQ u k st.1 s:=by
 unfold rfAn anQ;rcases hs.rt with V|⟨V,Q,N,J⟩
 ·simp_all
 ·have hf:=hs.ft;have U:=hs.f0;rw[jD (show¬s.Right<0 by omega)];have e1:=(h.rest s Z s.Right (by omega)).1;have e2:=(h.rest s Z (s.Right+1) (by omega)).1
  have T:rfBl k l s.Right=blQ k st.1 s.Right:=by
   unfold rfBl blQ;rw[e1,e2,h.len]
   have I:0<=(itg l s.Right).Cut:=by
    unfold itg;rw[j8,lgg (by omega)];exact hl _ (v6 _)
   have:decide ((itg l s.Right).Cut=0)=!decide (0<(itg l s.Right).Cut):=by
    generalize(itg l s.Right).Cut=cc at*
    by_cases h0:cc=0
    ·subst h0;rfl
    ·rw[jD h0,jH (show 0<cc by omega)];rfl
   rw[this];cases decide ((itg l s.Right).Value=k)<;>cases(!decide (0<(itg l s.Right).Cut))<;>cases decide (s.Right+1<(l.length:Int))<;>simp
  rw[zmv hs h.len (λi hi=>(h.rest s Z i hi).1),e1,T,zyS];all_goals grind
def zyV{u:Tm}{k:Int}{S:List Sgm}{l:List Ite}{M:List Int}{n:Nat}{st:List Ite×List (Int×Bool)}{s:Sgm}(V:S[n]? =some s)(hs:SgOk k l s)(h:StaOk l S M n st):
 rfAt u k l s=atQ u k st.1 s:=by
 unfold rfAt atQ;by_cases Z:s.From=s.To
 ·simp[Z]
 ·have hf:=hs.ft;rw[(h.rest s V (s.To-1) (by omega)).1]
  have hr:(decide (s.Right<0)||decide ((itg st.1 s.Right).Before.N=0))=(decide (s.Right<0)||decide ((itg l s.Right).Before.N=0)):=by
   rcases hs.rt with U|⟨U,T⟩
   ·simp_all
   ·rw[(h.rest s V s.Right (by omega)).1]
  rw[hr,jD Z];cases s.Free<;>cases ntQ u k (itg l (s.To-1))<;>cases decide (s.Right<0)<;>cases decide ((itg l s.Right).Before.N=0)<;>rfl
def zlk{u:Tm}{k:Int}{S:List Sgm}{l:List Ite}{M:List Int}{n:Nat}(hl:∀x∈l,0<=x.Cut)(V:SgsOk k l S)(U:∀s∈S,s.Free=true\/s.Count.D=1)(T:n<S.length)(Q:okJ u k S l M n=true):
 rfA u k S l (stK u S l M n).1 M n=alK u k S l M n:=by
 have Z:=zqq V n (by omega) Q;have hs:S[n]? =some S[n]:=lgg T;have N:S.getD n default=S[n]:=by simp_all
 have hm:=j5 hs;unfold rfA alK alQ;simp only;rw[N];generalize S[n]=s at*
 rw[zyT hs (V.all s hm) Z,zyU hl hs (V.all s hm) Z,zyV hs (V.all s hm) Z,zwz (U s hm)]
end
section
attribute [local irreducible] Pur yA yC Ex X Fn Imp LeV LeB FnO It yH FnW FnOW
def zmx(d:Tm):∀(L:List Tm)(t:Tm),smF t (L++[d])=smF t L++[addV (sumA t L) d]
 |[],t=>rfl
 |x::r,t=>by
  show addV t x::smF (addV t x) (r++[d])=_;rw[zmx d r];rfl
def zkp(d:Tm):∀(L:List Tm)(t:Tm),sumA t (L++[d])=addV (sumA t L) d
 |[],t=>rfl
 |x::r,t=>by
  show sumA (addV t x) (r++[d])=_;rw[zkp d r];rfl
def zll:∀(L:List Tm)(t:Tm),(smF t L).length=L.length
 |[],t=>rfl
 |x::r,t=>by simp only[smF,jY,zll r]
def fsP(l:List Ite)(n:Nat):List Tm:=smF ⟨0,1⟩ ((drL l).take n)
def fsA(l:List Ite)(n:Nat):Tm:=sumA ⟨0,1⟩ ((drL l).take n)
def zyW(l:List Ite):[]=fsP l 0:=by unfold fsP;rw[vX];rfl
def zow(l:List Ite):[iv 0,iv 1]=tmE (fsA l 0):=by unfold fsA;rw[vX];rfl
def zqM{l:List Ite}{n:Nat}{x:Ite}(h:l[n]? =some x):tmE (addV (fsA l n) x.Dur)=tmE (fsA l (n+1))/\fsP l n++[addV (fsA l n) x.Dur]=fsP l (n+1)/\(fsP l n).length<=n:=by
 have Z:(drL l)[n]? =some x.Dur:=by unfold drL;rw[jJ,h];rfl
 have ht:(drL l).take (n+1)=(drL l).take n++[x.Dur]:=by rw[jA,Z];rfl
 have e1:fsA l (n+1)=addV (fsA l n) x.Dur:=by unfold fsA;rw[ht,zkp]
 refine⟨by rw[e1],?_,?_⟩
 ·unfold fsP fsA;rw[ht,zmx]
 ·unfold fsP;rw[zll,jL];omega
def zsX(l:List Ite):fsP l l.length=fsL l:=by
 unfold fsP fsL;rw[wI (by unfold drL;simp)]
theorem zit(l:List Ite):(fsL l).length=l.length:=by unfold fsL;rw[zll];unfold drL;simp
def laP(a:Tm)(L:List Tm)(n:Nat):List Tm:=a::(((L.take n).filter λt=>decide (subE a t=0)).map λt=>subV a t)
def zyX(a:Tm)(L:List Tm):[a]=laP a L 0:=by unfold laP;rw[vX];rfl
def zyY{a:Tm}{L:List Tm}{n:Nat}{t:Tm}(h:L[n]? =some t):(subE a t=0->laP a L n++[subV a t]=laP a L (n+1))/\(¬subE a t=0->laP a L n=laP a L (n+1))/\(laP a L n).length<=n+1:=by
 unfold laP;have ht:L.take (n+1)=L.take n++[t]:=by rw[jA,h];rfl
 refine⟨λh0=>?_,λh0=>?_,?_⟩
 ·rw[ht,wR];simp[h0]
 ·rw[ht,wR];simp[h0]
 ·simp only[jY,jO];have:=wF (λt=>decide (subE a t=0)) (L.take n);rw[jL]at this;omega
def zsY{l:List Ite}(h:(fsL l).length=0):[]=lasL l:=by
 have:fsL l=[]:=jQ h;unfold lasL;rw[this];rfl
def zsZ{l:List Ite}{a:Tm}(h:(fsL l)[(fsL l).length-1]? =some a):laP a ((fsL l).take (((fsL l).length:Int)-1).toNat) ((fsL l).take (((fsL l).length:Int)-1).toNat).length=lasL l:=by
 rw[show(((fsL l).length:Int)-1).toNat=(fsL l).length-1 by omega];have Z:(fsL l).getLast?=some a:=by rw[List.getLast?_eq_getElem?];exact h
 unfold lasL;rw[Z];unfold laP;rw[j9,List.dropLast_eq_take]
structure SgB(n:Nat)(s:Sgm):Prop where
 f0:0<=s.From
 ft:s.From<=s.To
 tn:s.To<=n
 lf:s.Left<n
 rt:s.Right<n
def SgOk.b{k:Int}{l:List Ite}{s:Sgm}(h:SgOk k l s):SgB l.length s:=⟨h.f0,h.ft,h.tl,by have:=h.ft;have:=h.tl;rcases h.lf with h|h<;>omega,by rcases h.rt with h|h<;>omega⟩
attribute [local irreducible] fsL fsP fsA lasL laP cmpV addV addE subV subE drL
def zfV(l:List Ite)(hl:l.length<=1000000):Fn prog 371 [itsA l] (tmsA (fsL l)):=by
 have T:=zyW l;have Z:=zow l;refine kC func371 ntmps371 (λg w d=>?_);apply ye;refine ya ?_;apply yG;refine yi ?_;apply yf;refine kJ (yE tmE 83 2 3 200 rfl rfl) ?_;apply yj;refine ya ?_;refine zb ?_;refine kI ?_;apply kL;apply yf;apply ye;refine yq ?_;apply kA;refine ze (λn=>[(3,.own 200),(4,.ptr 4 0 0 0),(8,itsA l),(9,iv l.length),(10,iv (n:Int))]) (λn=>[(4,.box (tmE (fsA l n)) 83),(200,.row tmE (fsP l n) 83 2)]) l.length (λn E=>?_) (h0:=by exact bC (by(repeat'(first|exact True.intro|(refine And.intro ⟨_,rfl,?_⟩ ?_;(first|exact kU _|exact bG _|exact kT _|(refine kB ?_;simp;done)|(refine kB ?_;congr 1;omega)|(refine kB ?_;dsimp only;congr 1;omega)|(refine kB (j6 (AV.int _) ?_);omega)|exact kO _|exact kZ (by assumption)|(refine kV ?_;congr 1;omega)|(refine kV ?_;congr 1;simp only[cond_true,cond_false];omega)))))) (by(repeat'(first|exact True.intro|(refine And.intro ⟨_,rfl,?_⟩ ?_;(first|exact kT _|exact kZ (by assumption)|exact kV (j6 (λz=>Blk.box z 83) Z)|exact kV (j6 (λz=>Blk.box z 83) V)))))));refine gd ?_ ?_<;>intro Q
 ·obtain⟨x,hx⟩:∃x,l[n]? =some x:=⟨_,lgg (by omega)⟩;have N:l[(n:Int).toNat]? =some x:=by simpa using hx
  have U:=zqM hx;obtain⟨V,J,I⟩:=U;refine gc (zbl (fsA l n) x.Dur) ?_;refine yz tmE [addV (fsA l n) x.Dur] ?_;refine gq ?_;refine yo (n+1) (hI:=bC (by(repeat'(first|exact True.intro|(refine And.intro ⟨_,rfl,?_⟩ ?_;(first|exact kU _|exact bG _|exact kT _|(refine kB ?_;simp;done)|(refine kB ?_;congr 1;omega)|(refine kB ?_;dsimp only;congr 1;omega)|(refine kB (j6 (AV.int _) ?_);omega)|exact kO _|exact kZ (by assumption)|(refine kV ?_;congr 1;omega)|(refine kV ?_;congr 1;simp only[cond_true,cond_false];omega)))))) (by(repeat'(first|exact True.intro|(refine And.intro ⟨_,rfl,?_⟩ ?_;(first|exact kT _|exact kZ (by assumption)|exact kV (j6 (λz=>Blk.box z 83) Z)|exact kV (j6 (λz=>Blk.box z 83) V)))))))
 ·have H:n=l.length:=by omega
  subst H;have he:=zsX l;apply kK;apply yf;refine kJ (k9 (k:=200) rfl) ?_;refine gq ?_;all_goals(first|exact j6 (λz=>tmsA z) he|exact zE he)
def zgP(l:List Ite)(hl:l.length<=1000000):Fn prog 372 [itsA l] (tmsA (lasL l)):=by
 have N:=zit l;refine kC func372 ntmps372 (λg w d=>?_);refine gc (zfV l hl) ?_;refine gd ?_ ?_<;>intro J
 ·have he:=zsY (l:=l) (by omega);apply ye;refine yi ?_;refine kE ?_;refine k8 (yd (ts:=[(2,tmsA [])]) (hs:=[])) ?_;refine gq ?_;all_goals(first|exact j6 (λz=>tmsA z) he|(rw[←he];done))
 obtain⟨a,Q⟩:∃a,(fsL l)[(fsL l).length-1]? =some a:=⟨_,lgg (by omega)⟩;have I:(fsL l)[((fsL l).length-1:Int).toNat]? =some a:=by rw[show((fsL l).length-1:Int).toNat=(fsL l).length-1 by omega];exact Q
 have H:=zyX a ((fsL l).take (((fsL l).length:Int)-1).toNat);have E:((fsL l).take (((fsL l).length:Int)-1).toNat).length<=l.length:=by rw[jL];omega
 refine gq ?_;refine yz tmE [a] ?_;refine gq ?_
 first
  |refine zak (zcS rfl rfl rfl sl50 ty83 (by omega) (by omega)) rfl ?_
  |refine zak (zdD rfl rfl sl50 ty83 (λ_=>rfl) (by omega) (by omega)) rfl ?_
 refine yL ?_;apply kA;refine ze (λn=>[(4,.ptr 4 0 0 0),(5,.own 22),(27,tmsA ((fsL l).take (((fsL l).length:Int)-1).toNat)),(28,iv ((fsL l).take (((fsL l).length:Int)-1).toNat).length),(29,iv (n:Int))]) (λn=>[(4,.box (tmE a) 83),(22,.row tmE (laP a ((fsL l).take (((fsL l).length:Int)-1).toNat) n) 83 2)]) (((fsL l).take (((fsL l).length:Int)-1).toNat).length) (λn hk=>?_);refine gd ?_ ?_<;>intro xT
 ·obtain⟨t,ht⟩:∃t,((fsL l).take (((fsL l).length:Int)-1).toNat)[n]? =some t:=⟨_,lgg (by omega)⟩;have x4:((fsL l).take (((fsL l).length:Int)-1).toNat)[(n:Int).toNat]? =some t:=by simpa using ht
  have T:=zyY (a:=a) ht;obtain⟨Z,V,x3⟩:=T;refine gc (zda a t) ?_;refine gd ?_ ?_<;>intro U
  ·have Z:=Z U;refine gq ?_;refine yz tmE [subV a t] ?_;refine gq ?_;refine yo (n+1) (hI:=yg)
  ·have V:=V U;refine gq ?_;refine yo (n+1) (hI:=yg)
 ·have hn:n=((fsL l).take (((fsL l).length:Int)-1).toNat).length:=by omega
  subst hn;have he:=zsZ Q;apply kK;apply yf;refine kJ (k9 (k:=22) rfl) ?_;refine gq ?_;all_goals(first|exact j6 (λz=>tmsA z) he|exact zE he)
def zbk(l:List Ite)(k:Int)(u:Tm)(b:Nat)(x:Ite):Fn prog 369 [.ept (λ_:Unit=>[.sl itE l,iv k,iv u.N,iv u.D,.val (.map (some b))]) () 0,itA x] (.bool (lgQ u x)):=by
 refine kC func369 ntmps369 (λg w d=>?_);refine gq ?_;refine yQ [5,6,7,8,9,10,11,12,13,14,15,16] [0,1,0,4,12,28,63,127,255,255,511,2047] mo ?_;iterate 6 refine yb ?_
 refine yI (zje x.Dur u) ?_;iterate 5 refine yb ?_
 refine yx ?_;refine gq ?_;all_goals rfl
def za6(l:List Ite)(k:Int)(u:Tm)(b:Nat)(S:List Tm)(t:Tm)(Z:S.length<=2000000):Fn prog 370 [.ept (λ_:Unit=>[.sl itE l,iv k,iv u.N,iv u.D,.val (.map (some b))]) () 0,tmsA S,tmA t] (.bool (rcQ u S t)):=by
 refine kC func370 ntmps370 (λg w d=>?_);refine gq ?_;refine yQ [7,9,10,11,12,13,14,15,16,17] [0,0,2,6,14,31,63,127,127,0,767,2047] mo ?_;iterate 5 refine yb ?_
 refine yI (zbl t u) ?_;iterate 3 refine yb ?_
 refine ChM.step rfl rfl rfl (zw (k:=7) zc83) rfl ?_;refine ChM.lt 8 ?_ ?_
 ·refine kI ?_;refine ya ?_;apply yG;iterate 2 refine ya ?_
  refine kG 2 ?_;refine gq ?_;refine kQ (zm S (addV t u) (by omega)) ?_;refine ge ?_;all_goals rfl
 ·refine kI ?_;iterate 2 refine ya ?_
  apply yG;iterate 2 refine ya ?_
  refine kG 2 ?_;refine gq ?_;refine kQ (zm S (addV t u) (by omega)) ?_;refine ge ?_;all_goals rfl
end
end Go.Rse
