/-
  Walks.
-/
import Derived.Test.YtbopkhoalndflaaGreatDoorUJLvl11
set_option linter.all false
namespace Go.Rse
open Go Go.Proofs Go.Proofs.Tryz
section
attribute [local irreducible] Pur yA yC Ex X Fn Imp LeV LeB FnO It yH FnW FnOW
def zaQ(m:Mn)(k:Int)(l:List Ite):(segV m k l).length<=2*l.length+2:=by
 unfold segV;split
 ·rw[jO,zeM,zfk];have:=zfj k l l.length;omega
 ·simp
attribute [local irreducible] stK okJ alQ chN chL segV segE apE apV unT
def zh6(m:Mn)(k:Int)(l:List Ite)(M:List Int)(h0:-9223372036854775808<=k)(V:k<=9223372036854775807)(hl:l.length<=1000000)(U:M.length<=4000000)(hE:¬segE m k l=0):Fn prog 256 [mnA m,iv k,itsA l,yc M] (.tup [itsA [],iv (segE m k l)]):=by
 refine kC func256 ntmps256 (λg w d=>?_);refine gc (zhw m k l h0 V hl hE) ?_;refine gd ?_ ?_<;>intro Z
 ·apply ye;refine yq ?_;refine kE ?_;refine k8 (yd (ts:=[(8,itsA []),(9,iv (segE m k l))]) (hs:=[])) ?_;refine yh ?_ ?_;all_goals exact zR
 exact absurd Z hE
def zh7(m:Mn)(k:Int)(l:List Ite)(M:List Int)(h0:-9223372036854775808<=k)(U:k<=9223372036854775807)(hl:l.length<=1000000)(J:M.length<=4000000)(hE:segE m k l=0)(hX:(!decide ((M.length:Int)=((segV m k l).length:Int)))=true):Fn prog 256 [mnA m,iv k,itsA l,yc M] (.tup [itsA [],iv 2]):=by
 have T:=zaQ m k l;have I:=zhS (zdT hE).1;have Q:=zeN hE;refine kC func256 ntmps256 (λg w d=>?_);refine gq ?_;refine zai [(36,2000000),(30,2000001),(34,2000002)] (zaY m k l h0 U hl hE) ?_;refine gd ?_ ?_<;>intro V
 ·exact absurd rfl V
 apply yl;iterate 2 apply yf
 have N:((!decide ((M.length:Int)=((segV m k l).length:Int)))==false)=false:=by rw[hX];rfl
 ·apply yj;iterate 6 refine ya ?_
  iterate 5 refine zbC ?_
  refine gd ?_ ?_<;>intro Z
  ·apply ye;refine yL ?_;refine kE ?_;refine k8 (yd (ts:=[(8,itsA []),(9,iv 2)]) (hs:=[])) ?_;refine yh ?_ ?_;all_goals exact zR
  first|(exact absurd Z.2 (by decide))|(cases Z;done)|(exact absurd Z (by simp[hX]))|(simp[hX]at Z;done)|(rcases Z with h|h<;>first|(cases h;done)|(exact absurd h (by simpa using hX))|(simp[hX]at h;done)|(exact absurd h (by decide)))
def zh8(m:Mn)(k:Int)(l:List Ite)(M:List Int)(h0:-9223372036854775808<=k)(Q:k<=9223372036854775807)(hl:l.length<=1000000)(I:M.length<=4000000)(hE:segE m k l=0)(hX:(!decide ((M.length:Int)=((segV m k l).length:Int)))=false)(hok:okJ (unT m k) k (segV m k l) l M M.length=false)(hN:∀s∈segV m k l,0<=s.Count.N)(hMS:M.length<=(segV m k l).length):Fn prog 256 [mnA m,iv k,itsA l,yc M] (.tup [itsA [],iv 2]):=by
 have J:=zaQ m k l;have H:=zhS (zdT hE).1;have V:=zeN hE;refine kC func256 ntmps256 (λg w d=>?_);refine gq ?_;refine zai [(36,2000000),(30,2000001),(34,2000002)] (zaY m k l h0 Q hl hE) ?_;refine gd ?_ ?_<;>intro U
 ·exact absurd rfl U
 apply yl;iterate 2 apply yf
 have T:((!decide ((M.length:Int)=((segV m k l).length:Int)))==false)=true:=by rw[hX];rfl
 ·apply yj;iterate 6 refine ya ?_
  iterate 3 refine z6 ?_
  refine zgx rfl rfl T ?_;refine zai [(2000000,2000000),(2000001,2000001),(2000002,2000002)] (zew (unT m k) k (segV m k l) l M V hN hMS hl (by omega) (by omega) (by omega) hok) ?_;refine z6 ?_;refine gd ?_ ?_<;>intro Z
  ·apply ye;refine yL ?_;refine kE ?_;refine k8 (yd (ts:=[(8,itsA []),(9,iv 2)]) (hs:=[])) ?_;refine yh ?_ ?_;all_goals exact zR
  first|(exact absurd Z.2 (by decide))|(cases Z;done)|(exact absurd Z (by simp[hX]))|(simp[hX]at Z;done)|(rcases Z with h|h<;>first|(cases h;done)|(exact absurd h (by simpa using hX))|(simp[hX]at h;done)|(exact absurd h (by decide)))
set_option maxHeartbeats 2000000 in
def zh9(m:Mn)(k:Int)(l:List Ite)(M:List Int)(h0:-9223372036854775808<=k)(Q:k<=9223372036854775807)(hl:l.length<=1000000)(H:M.length<=4000000)(hE:segE m k l=0)(hX:(!decide ((M.length:Int)=((segV m k l).length:Int)))=false)(hok:okJ (unT m k) k (segV m k l) l M M.length=true)(hN:∀s∈segV m k l,0<=s.Count.N)(hMS:M.length<=(segV m k l).length):Fn prog 256 [mnA m,iv k,itsA l,yc M] (.tup [itsA (stK (unT m k) (segV m k l) l M M.length).1,iv 0]):=by
 have J:=zaQ m k l;have E:=zhS (zdT hE).1;have V:=zeN hE;refine kC func256 ntmps256 (λg w d=>?_);refine gq ?_;refine zai [(36,2000000),(30,2000001),(34,2000002)] (zaY m k l h0 Q hl hE) ?_;refine gd ?_ ?_<;>intro U
 ·exact absurd rfl U
 apply yl;iterate 2 apply yf
 have T:((!decide ((M.length:Int)=((segV m k l).length:Int)))==false)=true:=by rw[hX];rfl
 ·apply yj;iterate 6 refine ya ?_
  iterate 3 refine z6 ?_
  refine zgx rfl rfl T ?_;refine zai [(2000000,2000000),(2000001,2000001),(2000002,2000002)] (zbL (unT m k) k (segV m k l) l M V hN hMS hl (by omega) (by omega) (by omega) hok) ?_;refine z6 ?_;refine gd ?_ ?_<;>intro Z
  ·first|(exact absurd Z.2 (by decide))|(cases Z;done)|(exact absurd Z (by simp[hX]))|(simp[hX]at Z;done)|(rcases Z with h|h<;>first|(cases h;done)|(exact absurd h (by simpa using hX))|(simp[hX]at h;done)|(exact absurd h (by decide)))
  apply yl;apply ye;refine ya ?_;refine ya ?_ (hs:=by exact yk rfl);iterate 2 refine ya ?_
  refine yq ?_;refine kE ?_;refine k8 (k9 (k:=2000001) rfl) ?_;refine yh ?_ ?_;all_goals(first|exact j6 (λz=>yc z) I|rfl)
end
section
attribute [local irreducible] Pur yA yC Ex X Fn Imp LeV LeB FnO It yH FnW FnOW
def brE:Int×Int×Int->List AV:=λp=>[iv p.1,iv p.2.1,iv p.2.2]
def bdT(b:Bd):Int×Int×Int:=(bdF b,b.next,b.item)
def bdL(k:Int)(l:List Ite)(n:Nat):List (Int×Int×Int):=(bdK k l n).map bdT
def zyE(k:Int)(l:List Ite):[((0:Int),(0:Int),(-1:Int))]=bdL k l 0:=by rfl
theorem zoo{k:Int}{l:List Ite}{n:Nat}{x:Ite}(h:l[n]? =some x)(Z:0<=x.Cut):bdL k l (n+1)=(bdL k l n++if x.Color=false/\x.Value<=k then[((n:Int),(n:Int)+1,(n:Int))]else[])++if¬x.Cut=0/\x.Cut<=k then[((n:Int)+1,(n:Int)+1,(-1:Int))]else[]:=by
 grind[bdL,zdR,bdT]
def zwm{k:Int}{l:List Ite}{n:Nat}{x:Ite}(h:l[n]? =some x)(Z:0<=x.Cut)(V:x.Color=false/\x.Value<=k)(U:¬x.Cut=0/\x.Cut<=k):(bdL k l n++[((n:Int),(n:Int)+1,(n:Int))])++[((n:Int)+1,(n:Int)+1,(-1:Int))]=bdL k l (n+1):=by simp_all[zoo]
def zwn{k:Int}{l:List Ite}{n:Nat}{x:Ite}(h:l[n]? =some x)(Z:0<=x.Cut)(V:x.Color=false/\x.Value<=k)(U:x.Cut=0\/k<x.Cut):bdL k l n++[((n:Int),(n:Int)+1,(n:Int))]=bdL k l (n+1):=by grind[zoo]
def zwo{k:Int}{l:List Ite}{n:Nat}{x:Ite}(h:l[n]? =some x)(Z:0<=x.Cut)(V:x.Color=true\/k<x.Value)(U:¬x.Cut=0/\x.Cut<=k):bdL k l n++[((n:Int)+1,(n:Int)+1,(-1:Int))]=bdL k l (n+1):=by
 grind[zoo]
def zwp{k:Int}{l:List Ite}{n:Nat}{x:Ite}(h:l[n]? =some x)(Z:0<=x.Cut)(V:x.Color=true\/k<x.Value)(U:x.Cut=0\/k<x.Cut):bdL k l n=bdL k l (n+1):=by
 grind[zoo]
def zop(k:Int)(l:List Ite)(n:Nat):(bdL k l n).length<=2*n+1:=by simp[bdL,zfj]
def bdsT(k:Int)(l:List Ite):List (Int×Int×Int):=(bds k l).map bdT
def zqv(k:Int)(l:List Ite):bdL k l l.length++[((l.length:Int),(l.length:Int),(-1:Int))]=bdsT k l:=by
 unfold bdsT bds bdL;rw[xD];rfl
def zqw(k:Int)(l:List Ite):(bdsT k l).length=(bds k l).length:=by unfold bdsT;simp
def zgN{a b:Tm}(h:tmE a=tmE b):a=b:=by
 obtain⟨a1,a2⟩:=a;simp_all[tmE]
def zCC{L:List Tm}{s:Tm}{n:Nat}{t:Tm}(h:L[n]? =some t):sumF s (L.drop n)=if addE s t=0 then sumF (addV s t) (L.drop (n+1))else(tmZ,addE s t):=by
 grind[List.drop_eq_getElem_cons,sumF]
def zoq{l:List Ite}{s:Sgm}{n:Nat}{x:Ite}(h:(itR l s)[n]? =some x):(drL (itR l s))[n]? =some x.Dur/\(0<=s.From->l[(s.From+n).toNat]? =some x):=by
 grind[drL,itR]
def ziX{l:List Ite}{s:Sgm}(f0:0<=s.From)(ft:s.From<=s.To)(tn:s.To<=l.length):((itR l s).length:Int)=s.To-s.From:=by
 grind[itR]
theorem zqx:∀(L:List Tm)(t:Tm)(n:Nat),n<L.length->(pfF t L)[n]? =some (sumA t (L.take n))
 |[],t,n,h=>by simp at h
 |d::r,t,0,h=>rfl
 |d::r,t,n+1,h=>by
  have:=zqx r (addV t d) n (by simpa using h);simpa[pfF,sumA]using this
theorem zqy:∀(L:List Tm)(t:Tm),(pfF t L).length=L.length
 |[],t=>rfl
 |d::r,t=>by simp only[pfF,jY,zqy r]
theorem zuY{l:List Ite}{n:Nat}(h:n<l.length):(fsL l)[n]? =some (fsA l (n+1)):=by
 have Z:∀(L:List Tm)(t:Tm)(n:Nat),n<L.length->(smF t L)[n]? =some (sumA t (L.take (n+1))):=by
  intro L
  induction L with
  |nil=>intro t n h;simp at h
  |cons d r ih=>
   intro t n h;cases n with
   |zero=>rfl
   |succ n=>simpa[smF,sumA]using ih (addV t d) n (by simpa using h)
 simp_all[fsL,fsA,drL]
def zyF{l:List Ite}{w:Tm}(h:∀j,j<l.length->¬fsA l (j+1)=w):decide (w∈fsL l)=false:=by
 grind[List.getElem?_of_mem,zit,zuY]
def zwq{l:List Ite}{w:Tm}{n:Nat}(Z:n<l.length)(h:fsA l (n+1)=w):decide (w∈fsL l)=true:=by
 rw[jT];exact j5 (h▸zuY Z)
def zqz(l:List Ite):fsA l l.length=sumA ⟨0,1⟩ (drL l):=by simp[fsA,wI,drL]
theorem zor{l:List Ite}{w:Tm}:w∈rlaL l↔∃j,j<l.length/\subE (fsA l l.length) (fsA l j)=0/\subV (fsA l l.length) (fsA l j)=w:=by
 unfold rlaL;rw[←zqz];simp only[jX,wL,w9];constructor
 ·grind[List.getElem?_of_mem,zqy,zqx,drL,fsA]
 ·rintro⟨j,T,Z,V⟩
  have U:j<(drL l).length:=by grind[drL]
  exact⟨fsA l j,⟨j5 (zqx _ _ _ U),Z⟩,V⟩
def zwr{l:List Ite}{w:Tm}(h:∀j,j<l.length->¬(subE (fsA l l.length) (fsA l j)=0/\subV (fsA l l.length) (fsA l j)=w)):decide (w∈rlaL l)=false:=by
 simp_all[zor]
def zsN{l:List Ite}{w:Tm}{n:Nat}(Z:n<l.length)(V:subE (fsA l l.length) (fsA l n)=0)(U:subV (fsA l l.length) (fsA l n)=w):decide (w∈rlaL l)=true:=by
 grind[zor]
attribute [local irreducible] bdL bdsT fsA fsL drL addV addE subV subE divV divE sumF itR
def zeP(k:Int)(l:List Ite)(hl:l.length<=1000000)(I:∀x∈l,0<=x.Cut):Fn prog 321 [iv k,itsA l] (.sl brE (bdsT k l)):=by
 have H:=zyE k l;have T:=zqv k l;refine kC func321 ntmps321 (λg w d=>?_);refine gq ?_;refine yz brE [((0:Int),(0:Int),(-1:Int))] ?_;refine yi ?_;apply yf;apply ye;refine yi ?_;apply kA;refine ze (λn=>[(0,iv k),(1,itsA l),(5,.own 8),(6,iv (n:Int))]) (λn=>[(8,.row brE (bdL k l n) 357 3)]) l.length (λn hk=>?_);refine gd ?_ ?_<;>intro E
 ·obtain⟨x,hx⟩:∃x,l[n]? =some x:=⟨_,lgg (by omega)⟩;have xT:l[(n:Int).toNat]? =some x:=by simpa using hx
  have Z:=I x (j5 hx);have J:=zop k l n;apply yl;apply yf;apply kA;apply yf;apply ye;iterate 6 refine ya ?_
  refine kG 6 ?_;refine yn ?_;iterate 7 refine kF ?_
  refine gf ?_ ?_<;>intro V
  ·refine gq ?_;refine yz brE [((n:Int),(n:Int)+1,(n:Int))] ?_;refine kI ?_;refine ya ?_;apply yG;(iterate 6 refine ya ?_);refine kG 6 ?_;refine yn ?_;(iterate 7 refine kF ?_);refine gf ?_ ?_<;>intro Q
   ·have U:=zwm hx Z V Q;refine gq ?_;refine yz brE [((n:Int)+1,(n:Int)+1,(-1:Int))] ?_;refine gq ?_;refine yo (n+1) (hI:=yg)
   ·have U:=zwn hx Z V Q;refine gq ?_;refine yo (n+1) (hI:=yg)
  ·apply yl;apply ye;(iterate 6 refine ya ?_);refine kG 6 ?_;refine yn ?_;(iterate 7 refine kF ?_);refine gf ?_ ?_<;>intro N
   ·have U:=zwo hx Z V N;refine gq ?_;refine yz brE [((n:Int)+1,(n:Int)+1,(-1:Int))] ?_;refine gq ?_;refine yo (n+1) (hI:=yg)
   ·have U:=zwp hx Z V N;refine gq ?_;refine yo (n+1) (hI:=yg)
 ·have hn:n=l.length:=by omega
  subst hn;have J:=zop k l l.length;refine gq ?_;refine yz brE [((l.length:Int),(l.length:Int),(-1:Int))] ?_;refine kI ?_;refine yi ?_;refine kE ?_;refine k8 (k9 (k:=8) rfl) ?_;refine gq ?_;all_goals(first|exact j6 (λz=>AV.sl brE z) T|exact zE T)
set_option maxHeartbeats 1000000 in
def zcD(l:List Ite)(s:Sgm)(q:Tm)(hs:SgB l.length s)(hl:l.length<=1000000):Fn prog 366 [itsA l,smA s,tmA q] (.bool (decide (q∈fsL (itR l s)))):=by
 have f0:=hs.f0;have ft:=hs.ft;have tn:=hs.tn;have lf:=hs.lf;have rt:=hs.rt;have I:=ziX f0 ft tn;have H:=zow (itR l s);refine kC func366 ntmps366 (λg w d=>?_);refine gq ?_
 refine zcw (ι:=Nat) (λ(n:Nat)=>[(0,itsA l),(4,.ptr 4 0 0 0),(5,.ptr 5 0 0 0),(7,.ptr 7 0 0 0),(8,iv (s.From+(n:Int)))]) (λ(n:Nat)=>[(4,.box (smE s) 317),(5,.box (tmE q) 83),(7,.box (tmE (fsA (itR l s) n)) 83)]) (λ(n:Nat)=>n<=(itR l s).length/\∀j,j<n->¬fsA (itR l s) (j+1)=q) (λ(n:Nat)=>(itR l s).length-n) 0 (λn E=>?_) (hJ:=by
  simp_all) (h0:=by exact yg)
 obtain⟨xT,V⟩:=E;refine gd ?_ ?_<;>intro x4
 ·obtain⟨x,hx⟩:∃x,(itR l s)[n]? =some x:=⟨_,lgg (by omega)⟩;have U:=zoq hx;have T:l[(s.From+(n:Int)).toNat]? =some x:=U.2 f0;have Q:=zqM hx;obtain⟨Z,x3,x2⟩:=Q;have N:fsA (itR l s) (n+1)=addV (fsA (itR l s) n) x.Dur:=(zgN Z).symm;have x1:setAt (tmE (fsA (itR l s) n)) (0*0+0) (tmE (addV (fsA (itR l s) n) x.Dur))=tmE (fsA (itR l s) (n+1)):=Z;refine gq ?_;refine kY [⟨0,19,tmA (fsA (itR l s) n),[]⟩,⟨1,20,itsA l,[]⟩,⟨2,21,iv (s.From+(n:Int)),[]⟩,⟨3,22,.ept itE x 0,[2,1]⟩,⟨4,23,.ept itE x (0+6),[2,1,3]⟩,⟨5,24,tmA x.Dur,[2,1,3,4]⟩,⟨6,25,.tup [tmA (addV (fsA (itR l s) n) x.Dur),iv (addE (fsA (itR l s) n) x.Dur)],[2,1,3,4,5,0]⟩,⟨7,18,.tup [tmA (addV (fsA (itR l s) n) x.Dur),iv (addE (fsA (itR l s) n) x.Dur)],[2,1,3,4,5,0,6]⟩,⟨8,26,tmA (addV (fsA (itR l s) n) x.Dur),[2,1,3,4,5,0,6,7]⟩,⟨9,27,iv (addE (fsA (itR l s) n) x.Dur),[2,1,3,4,5,0,6,7]⟩] [(10,[7,5,4,3,2,1,0,6,8])] (λj=>match j with|0=>⟨[(0,itsA l),(4,.ptr 4 0 0 0),(5,.ptr 5 0 0 0),(7,.ptr 7 0 0 0),(8,iv (s.From+(n:Int)))],[(4,.box (smE s) 317),(5,.box (tmE q) 83),(7,.box (tmE (fsA (itR l s) n)) 83)]⟩|_=>⟨[(0,itsA l),(4,.ptr 4 0 0 0),(5,.ptr 5 0 0 0),(7,.ptr 7 0 0 0),(8,iv (s.From+(n:Int)))],[(4,.box (smE s) 317),(5,.box (tmE q) 83),(7,.box (tmE (addV (fsA (itR l s) n) x.Dur)) 83)]⟩) mo (by kernel_rfl) (zt (yd)) (λj hj=>?_) (λj c hc β hβ=>?_) ?_
  ·rcases j with _|_|j
   ·(iterate 3 refine⟨.inr ⟨_,rfl,rfl,rfl,rfl,k7 yO⟩,?_⟩);refine⟨.inr ⟨_,rfl,rfl,rfl,rfl,k7 (zal (enc:=itE) (l:=l) (u:=x) rfl rfl SlK.h TyK.h (λ_=>rfl) (by omega) T)⟩,?_⟩;(iterate 2 refine⟨.inr ⟨_,rfl,rfl,rfl,rfl,k7 yO⟩,?_⟩);refine⟨.inr ⟨_,rfl,rfl,rfl,rfl,zau rfl rfl rfl (kP _) (zf (fsA (itR l s) n) x.Dur)⟩,?_⟩;exact yJ
   ·exact yJ
   simp_all
  ·rcases j with _|j
   ·obtain rfl:(10,[7,5,4,3,2,1,0,6,8])=c:=by injection hc
    refine yw rfl (yr (st0:=⟨[(19,tmA (fsA (itR l s) n)),(20,itsA l),(21,iv (s.From+(n:Int))),(22,.ept itE x 0),(23,.ept itE x (0+6)),(24,tmA x.Dur),(25,.tup [tmA (addV (fsA (itR l s) n) x.Dur),iv (addE (fsA (itR l s) n) x.Dur)]),(18,.tup [tmA (addV (fsA (itR l s) n) x.Dur),iv (addE (fsA (itR l s) n) x.Dur)]),(26,tmA (addV (fsA (itR l s) n) x.Dur)),(27,.ifb (β 9) (iv (addE (fsA (itR l s) n) x.Dur))),(0,itsA l),(4,.ptr 4 0 0 0),(5,.ptr 5 0 0 0),(7,.ptr 7 0 0 0),(8,iv (s.From+(n:Int)))],[(4,.box (smE s) 317),(5,.box (tmE q) 83),(7,.box (tmE (fsA (itR l s) n)) 83)]⟩) (ym) ?_);refine yC.imp (zdz rfl rfl rfl rfl ty83 rfl (leB rfl)) (ym)
   simp_all
  refine gd ?_ ?_<;>intro J
  ·have hE:=zwq (l:=itR l s) (w:=q) (n:=n) (by omega) (N.trans J);refine gq ?_;all_goals rw[hE]
  refine gq ?_
  refine yo (n+1) (hJ:=by
   grind) (hI:=yg)
 ·have hE:=zyF (l:=itR l s) (w:=q) λj hj=>V j (by omega)
  refine gq ?_;all_goals rw[hE]
set_option maxHeartbeats 1000000 in
def zc5(l:List Ite)(s:Sgm)(q:Tm)(hs:SgB l.length s)(hl:l.length<=1000000):Fn prog 367 [itsA l,smA s,tmA q] (.bool (decide (q∈rlaL (itR l s)))):=by
 have f0:=hs.f0;have ft:=hs.ft;have tn:=hs.tn;have lf:=hs.lf;have rt:=hs.rt;have x4:=ziX f0 ft tn;have x3:=zow (itR l s);refine kC func367 ntmps367 (λg w d=>?_);apply ye;iterate 2 refine zZ ?_
 refine ya ?_;apply yG;refine ya ?_;refine zb ?_;refine kI ?_;apply kL;apply yf;apply ye;refine yq ?_;apply kA;refine ze (λn=>[(0,itsA l),(4,.ptr 4 0 0 0),(5,.ptr 5 0 0 0),(7,.ptr 7 0 0 0),(8,iv (s.From+(n:Int)))]) (λn=>[(4,.box (smE s) 317),(5,.box (tmE q) 83),(7,.box (tmE (fsA (itR l s) n)) 83)]) ((itR l s).length) (λn hk=>?_);refine gd ?_ ?_<;>intro x2
 ·obtain⟨x,hx⟩:∃x,(itR l s)[n]? =some x:=⟨_,lgg (by omega)⟩;have V:=zoq hx;have U:l[(s.From+(n:Int)).toNat]? =some x:=V.2 f0;have T:=zqM hx;obtain⟨Z,N,J⟩:=T;have I:fsA (itR l s) (n+1)=addV (fsA (itR l s) n) x.Dur:=(zgN Z).symm;have H:setAt (tmE (fsA (itR l s) n)) (0*0+0) (tmE (addV (fsA (itR l s) n) x.Dur))=tmE (fsA (itR l s) (n+1)):=Z;refine gq ?_;refine kY [⟨0,23,tmA (fsA (itR l s) n),[]⟩,⟨1,24,itsA l,[]⟩,⟨2,25,iv (s.From+(n:Int)),[]⟩,⟨3,26,.ept itE x 0,[2,1]⟩,⟨4,27,.ept itE x (0+6),[2,1,3]⟩,⟨5,28,tmA x.Dur,[2,1,3,4]⟩,⟨6,29,.tup [tmA (addV (fsA (itR l s) n) x.Dur),iv (addE (fsA (itR l s) n) x.Dur)],[2,1,3,4,5,0]⟩,⟨7,22,.tup [tmA (addV (fsA (itR l s) n) x.Dur),iv (addE (fsA (itR l s) n) x.Dur)],[2,1,3,4,5,0,6]⟩,⟨8,30,tmA (addV (fsA (itR l s) n) x.Dur),[2,1,3,4,5,0,6,7]⟩,⟨9,31,iv (addE (fsA (itR l s) n) x.Dur),[2,1,3,4,5,0,6,7]⟩] [(10,[7,5,4,3,2,1,0,6,8])] (λj=>match j with|0=>⟨[(0,itsA l),(4,.ptr 4 0 0 0),(5,.ptr 5 0 0 0),(7,.ptr 7 0 0 0),(8,iv (s.From+(n:Int)))],[(4,.box (smE s) 317),(5,.box (tmE q) 83),(7,.box (tmE (fsA (itR l s) n)) 83)]⟩|_=>⟨[(0,itsA l),(4,.ptr 4 0 0 0),(5,.ptr 5 0 0 0),(7,.ptr 7 0 0 0),(8,iv (s.From+(n:Int)))],[(4,.box (smE s) 317),(5,.box (tmE q) 83),(7,.box (tmE (addV (fsA (itR l s) n) x.Dur)) 83)]⟩) mo (by kernel_rfl) (zt (yd)) (λj hj=>?_) (λj c E β hβ=>?_) ?_
  ·rcases j with _|_|j
   ·(iterate 3 refine⟨.inr ⟨_,rfl,rfl,rfl,rfl,k7 yO⟩,?_⟩);refine⟨.inr ⟨_,rfl,rfl,rfl,rfl,k7 (zal (enc:=itE) (l:=l) (u:=x) rfl rfl SlK.h TyK.h (λ_=>rfl) (by omega) U)⟩,?_⟩;(iterate 2 refine⟨.inr ⟨_,rfl,rfl,rfl,rfl,k7 yO⟩,?_⟩);refine⟨.inr ⟨_,rfl,rfl,rfl,rfl,zau rfl rfl rfl (kP _) (zf (fsA (itR l s) n) x.Dur)⟩,?_⟩;exact yJ
   ·exact yJ
   simp_all
  ·rcases j with _|j
   ·obtain rfl:(10,[7,5,4,3,2,1,0,6,8])=c:=by injection E
    refine yw rfl (yr (st0:=⟨[(23,tmA (fsA (itR l s) n)),(24,itsA l),(25,iv (s.From+(n:Int))),(26,.ept itE x 0),(27,.ept itE x (0+6)),(28,tmA x.Dur),(29,.tup [tmA (addV (fsA (itR l s) n) x.Dur),iv (addE (fsA (itR l s) n) x.Dur)]),(22,.tup [tmA (addV (fsA (itR l s) n) x.Dur),iv (addE (fsA (itR l s) n) x.Dur)]),(30,tmA (addV (fsA (itR l s) n) x.Dur)),(31,.ifb (β 9) (iv (addE (fsA (itR l s) n) x.Dur))),(0,itsA l),(4,.ptr 4 0 0 0),(5,.ptr 5 0 0 0),(7,.ptr 7 0 0 0),(8,iv (s.From+(n:Int)))],[(4,.box (smE s) 317),(5,.box (tmE q) 83),(7,.box (tmE (fsA (itR l s) n)) 83)]⟩) (ym) ?_);refine yC.imp (zdz rfl rfl rfl rfl ty83 rfl (leB rfl)) (ym)
   simp_all
  refine gq ?_;refine yo (n+1) (hI:=yg)
 ·have hn:n=(itR l s).length:=by omega
  subst hn;refine gq ?_
  refine zcw (ι:=Nat) (λ(n:Nat)=>[(0,itsA l),(4,.ptr 4 0 0 0),(5,.ptr 5 0 0 0),(7,.ptr 7 0 0 0),(9,.ptr 9 0 0 0),(10,iv (s.From+(n:Int)))]) (λ(n:Nat)=>[(4,.box (smE s) 317),(5,.box (tmE q) 83),(7,.box (tmE (fsA (itR l s) (itR l s).length)) 83),(9,.box (tmE (fsA (itR l s) n)) 83)]) (λ(n:Nat)=>n<=(itR l s).length/\∀j,j<n->¬(subE (fsA (itR l s) (itR l s).length) (fsA (itR l s) j)=0/\subV (fsA (itR l s) (itR l s).length) (fsA (itR l s) j)=q)) (λ(n:Nat)=>(itR l s).length-n) 0 (λn hk=>?_) (hJ:=by
   simp_all) (h0:=by exact yg)
  obtain⟨x1,xT⟩:=hk;refine gd ?_ ?_<;>intro x0
  ·obtain⟨x,hx⟩:∃x,(itR l s)[n]? =some x:=⟨_,lgg (by omega)⟩;have V:=zoq hx;have U:l[(s.From+(n:Int)).toNat]? =some x:=V.2 f0;have T:=zqM hx;obtain⟨Z,N,J⟩:=T;have I:fsA (itR l s) (n+1)=addV (fsA (itR l s) n) x.Dur:=(zgN Z).symm;have H:setAt (tmE (fsA (itR l s) n)) (0*0+0) (tmE (addV (fsA (itR l s) n) x.Dur))=tmE (fsA (itR l s) (n+1)):=Z;refine gq ?_;refine yM (zac (fsA (itR l s) (itR l s).length) (fsA (itR l s) n)) ?_;(iterate 3 refine ya ?_);refine zb ?_;refine kI ?_;refine yi ?_;apply yf;apply ye;(iterate 2 refine ya ?_);refine kG 2 ?_;refine yn ?_;(iterate 3 refine kF ?_);refine gf ?_ ?_<;>intro Q
   ·have hE:=zsN (l:=itR l s) (w:=q) (n:=n) (by omega) Q.1 Q.2;refine gq ?_;all_goals rw[hE]
   apply yl;refine kY [⟨0,55,tmA (fsA (itR l s) n),[]⟩,⟨1,56,itsA l,[]⟩,⟨2,57,iv (s.From+(n:Int)),[]⟩,⟨3,58,.ept itE x 0,[2,1]⟩,⟨4,59,.ept itE x (0+6),[2,1,3]⟩,⟨5,60,tmA x.Dur,[2,1,3,4]⟩,⟨6,61,.tup [tmA (addV (fsA (itR l s) n) x.Dur),iv (addE (fsA (itR l s) n) x.Dur)],[2,1,3,4,5,0]⟩,⟨7,54,.tup [tmA (addV (fsA (itR l s) n) x.Dur),iv (addE (fsA (itR l s) n) x.Dur)],[2,1,3,4,5,0,6]⟩,⟨8,62,tmA (addV (fsA (itR l s) n) x.Dur),[2,1,3,4,5,0,6,7]⟩,⟨9,63,iv (addE (fsA (itR l s) n) x.Dur),[2,1,3,4,5,0,6,7]⟩] [(10,[7,5,4,3,2,1,0,6,8])] (λj=>match j with|0=>⟨[(0,itsA l),(4,.ptr 4 0 0 0),(5,.ptr 5 0 0 0),(7,.ptr 7 0 0 0),(9,.ptr 9 0 0 0),(10,iv (s.From+(n:Int)))],[(4,.box (smE s) 317),(5,.box (tmE q) 83),(7,.box (tmE (fsA (itR l s) (itR l s).length)) 83),(9,.box (tmE (fsA (itR l s) n)) 83)]⟩|_=>⟨[(0,itsA l),(4,.ptr 4 0 0 0),(5,.ptr 5 0 0 0),(7,.ptr 7 0 0 0),(9,.ptr 9 0 0 0),(10,iv (s.From+(n:Int)))],[(4,.box (smE s) 317),(5,.box (tmE q) 83),(7,.box (tmE (fsA (itR l s) (itR l s).length)) 83),(9,.box (tmE (addV (fsA (itR l s) n) x.Dur)) 83)]⟩) mo (by kernel_rfl) (zt (yd)) (λj hj=>?_) (λj c E β hβ=>?_) ?_
   ·rcases j with _|_|j
    ·(iterate 3 refine⟨.inr ⟨_,rfl,rfl,rfl,rfl,k7 yO⟩,?_⟩);refine⟨.inr ⟨_,rfl,rfl,rfl,rfl,k7 (zal (enc:=itE) (l:=l) (u:=x) rfl rfl SlK.h TyK.h (λ_=>rfl) (by omega) U)⟩,?_⟩;(iterate 2 refine⟨.inr ⟨_,rfl,rfl,rfl,rfl,k7 yO⟩,?_⟩);refine⟨.inr ⟨_,rfl,rfl,rfl,rfl,zau rfl rfl rfl (kP _) (zf (fsA (itR l s) n) x.Dur)⟩,?_⟩;exact yJ
    ·exact yJ
    simp_all
   ·rcases j with _|j
    ·obtain rfl:(10,[7,5,4,3,2,1,0,6,8])=c:=by injection E
     refine yw rfl (yr (st0:=⟨[(55,tmA (fsA (itR l s) n)),(56,itsA l),(57,iv (s.From+(n:Int))),(58,.ept itE x 0),(59,.ept itE x (0+6)),(60,tmA x.Dur),(61,.tup [tmA (addV (fsA (itR l s) n) x.Dur),iv (addE (fsA (itR l s) n) x.Dur)]),(54,.tup [tmA (addV (fsA (itR l s) n) x.Dur),iv (addE (fsA (itR l s) n) x.Dur)]),(62,tmA (addV (fsA (itR l s) n) x.Dur)),(63,.ifb (β 9) (iv (addE (fsA (itR l s) n) x.Dur))),(0,itsA l),(4,.ptr 4 0 0 0),(5,.ptr 5 0 0 0),(7,.ptr 7 0 0 0),(9,.ptr 9 0 0 0),(10,iv (s.From+(n:Int)))],[(4,.box (smE s) 317),(5,.box (tmE q) 83),(7,.box (tmE (fsA (itR l s) (itR l s).length)) 83),(9,.box (tmE (fsA (itR l s) n)) 83)]⟩) (ym) ?_);refine yC.imp (zdz rfl rfl rfl rfl ty83 rfl (leB rfl)) (ym)
    simp_all
   refine gq ?_
   refine yo (n+1) (hJ:=by
    grind) (hI:=yg)
  ·have hE:=zwr (l:=itR l s) (w:=q) λj hj=>xT j (by omega)
   refine gq ?_;all_goals rw[hE]
end
end Go.Rse
