/-
  Walks.
-/
import Derived.Test.YtbopkhoalndflaaGreatDoorYJLvl11
set_option linter.all false
namespace Go.Rse
open Go Go.Proofs Go.Proofs.Tryz
section
attribute [local irreducible] Pur yA yC Ex X Fn Imp LeV LeB FnO It yH FnW FnOW
def zaJ(m:Mn)(k:Int)(l:List Ite):(segV m k l).length<=2*l.length+2:=by
 unfold segV;split
 ·rw[jX,zes,ze5];have:=ze2 k l l.length;omega
 ·simp
attribute [local irreducible] stK okJ alQ chN chL segV segE apE apV unT
def zhC(m:Mn)(k:Int)(l:List Ite)(M:List Int)(h0:-9223372036854775808<=k)(V:k<=9223372036854775807)(hl:l.length<=1000000)(U:M.length<=4000000)(hE:¬segE m k l=0):Fn prog 256 [mnA m,iv k,itsA l,yc M] (.tup [itsA [],iv (segE m k l)]):=by
 refine kF func256 ntmps256 (λg w d=>?_);refine gc (zg7 m k l h0 V hl hE) ?_;refine gd ?_ ?_<;>intro Z
 ·apply ye;refine yE ?_;refine kE ?_;refine kA (yd (ts:=[(8,itsA []),(9,iv (segE m k l))]) (hs:=[])) ?_;refine ym ?_ ?_;all_goals exact zR
 exact absurd Z hE
def zhD(m:Mn)(k:Int)(l:List Ite)(M:List Int)(h0:-9223372036854775808<=k)(U:k<=9223372036854775807)(hl:l.length<=1000000)(J:M.length<=4000000)(hE:segE m k l=0)(hX:(!decide ((M.length:Int)=((segV m k l).length:Int)))=true):Fn prog 256 [mnA m,iv k,itsA l,yc M] (.tup [itsA [],iv 2]):=by
 have T:=zaJ m k l;have I:=zhp (zdx hE).1;have Q:=zet hE;refine kF func256 ntmps256 (λg w d=>?_);refine gq ?_;refine zV [(36,2000000),(30,2000001),(34,2000002)] (zaT m k l h0 U hl hE) ?_;refine gd ?_ ?_<;>intro V
 ·exact absurd rfl V
 apply yk;iterate 2 apply yf
 have N:((!decide ((M.length:Int)=((segV m k l).length:Int)))==false)=false:=by rw[hX];rfl
 ·apply yj;iterate 6 refine ya ?_
  iterate 5 refine zbP ?_
  refine gd ?_ ?_<;>intro Z
  ·apply ye;refine yO ?_;refine kE ?_;refine kA (yd (ts:=[(8,itsA []),(9,iv 2)]) (hs:=[])) ?_;refine ym ?_ ?_;all_goals exact zR
  first|(exact absurd Z.2 (by decide))|(cases Z;done)|(exact absurd Z (by simp[hX]))|(simp[hX]at Z;done)|(rcases Z with h|h<;>first|(cases h;done)|(exact absurd h (by simpa using hX))|(simp[hX]at h;done)|(exact absurd h (by decide)))
def zhE(m:Mn)(k:Int)(l:List Ite)(M:List Int)(h0:-9223372036854775808<=k)(Q:k<=9223372036854775807)(hl:l.length<=1000000)(I:M.length<=4000000)(hE:segE m k l=0)(hX:(!decide ((M.length:Int)=((segV m k l).length:Int)))=false)(hok:okJ (unT m k) k (segV m k l) l M M.length=false)(hN:∀s∈segV m k l,0<=s.Count.N)(hMS:M.length<=(segV m k l).length):Fn prog 256 [mnA m,iv k,itsA l,yc M] (.tup [itsA [],iv 2]):=by
 have J:=zaJ m k l;have H:=zhp (zdx hE).1;have V:=zet hE;refine kF func256 ntmps256 (λg w d=>?_);refine gq ?_;refine zV [(36,2000000),(30,2000001),(34,2000002)] (zaT m k l h0 Q hl hE) ?_;refine gd ?_ ?_<;>intro U
 ·exact absurd rfl U
 apply yk;iterate 2 apply yf
 have T:((!decide ((M.length:Int)=((segV m k l).length:Int)))==false)=true:=by rw[hX];rfl
 ·apply yj;iterate 6 refine ya ?_
  iterate 3 refine zag ?_
  refine yS rfl rfl T ?_;refine zV [(2000000,2000000),(2000001,2000001),(2000002,2000002)] (zec (unT m k) k (segV m k l) l M V hN hMS hl (by omega) (by omega) (by omega) hok) ?_;refine zag ?_;refine gd ?_ ?_<;>intro Z
  ·apply ye;refine yO ?_;refine kE ?_;refine kA (yd (ts:=[(8,itsA []),(9,iv 2)]) (hs:=[])) ?_;refine ym ?_ ?_;all_goals exact zR
  first|(exact absurd Z.2 (by decide))|(cases Z;done)|(exact absurd Z (by simp[hX]))|(simp[hX]at Z;done)|(rcases Z with h|h<;>first|(cases h;done)|(exact absurd h (by simpa using hX))|(simp[hX]at h;done)|(exact absurd h (by decide)))
set_option maxHeartbeats 2000000 in
def zhF(m:Mn)(k:Int)(l:List Ite)(M:List Int)(h0:-9223372036854775808<=k)(Q:k<=9223372036854775807)(hl:l.length<=1000000)(H:M.length<=4000000)(hE:segE m k l=0)(hX:(!decide ((M.length:Int)=((segV m k l).length:Int)))=false)(hok:okJ (unT m k) k (segV m k l) l M M.length=true)(hN:∀s∈segV m k l,0<=s.Count.N)(hMS:M.length<=(segV m k l).length):Fn prog 256 [mnA m,iv k,itsA l,yc M] (.tup [itsA (stK (unT m k) (segV m k l) l M M.length).1,iv 0]):=by
 have J:=zaJ m k l;have G:=zhp (zdx hE).1;have V:=zet hE;refine kF func256 ntmps256 (λg w d=>?_);refine gq ?_;refine zV [(36,2000000),(30,2000001),(34,2000002)] (zaT m k l h0 Q hl hE) ?_;refine gd ?_ ?_<;>intro U
 ·exact absurd rfl U
 apply yk;iterate 2 apply yf
 have T:((!decide ((M.length:Int)=((segV m k l).length:Int)))==false)=true:=by rw[hX];rfl
 ·apply yj;iterate 6 refine ya ?_
  iterate 3 refine zag ?_
  refine yS rfl rfl T ?_;refine zV [(2000000,2000000),(2000001,2000001),(2000002,2000002)] (zbz (unT m k) k (segV m k l) l M V hN hMS hl (by omega) (by omega) (by omega) hok) ?_;refine zag ?_;refine gd ?_ ?_<;>intro Z
  ·first|(exact absurd Z.2 (by decide))|(cases Z;done)|(exact absurd Z (by simp[hX]))|(simp[hX]at Z;done)|(rcases Z with h|h<;>first|(cases h;done)|(exact absurd h (by simpa using hX))|(simp[hX]at h;done)|(exact absurd h (by decide)))
  apply yk;apply ye;refine ya ?_;refine ya ?_ (hs:=by exact yg rfl);iterate 2 refine ya ?_
  refine yE ?_;refine kE ?_;refine kA (k9 (k:=2000001) rfl) ?_;refine ym ?_ ?_;all_goals(first|exact j5 (λz=>yc z) I|rfl)
end
section
attribute [local irreducible] Pur yA yC Ex X Fn Imp LeV LeB FnO It yH FnW FnOW
def brE:Int×Int×Int->List AV:=λp=>[iv p.1,iv p.2.1,iv p.2.2]
def bdT(b:Bd):Int×Int×Int:=(bdF b,b.next,b.item)
def bdL(k:Int)(l:List Ite)(n:Nat):List (Int×Int×Int):=(bdK k l n).map bdT
def zxF(k:Int)(l:List Ite):[((0:Int),(0:Int),(-1:Int))]=bdL k l 0:=by rfl
theorem znI{k:Int}{l:List Ite}{n:Nat}{x:Ite}(h:l[n]? =some x)(Z:0<=x.Cut):bdL k l (n+1)=(bdL k l n++if x.Color=false/\x.Value<=k then[((n:Int),(n:Int)+1,(n:Int))]else[])++if¬x.Cut=0/\x.Cut<=k then[((n:Int)+1,(n:Int)+1,(-1:Int))]else[]:=by
 grind[bdL,zdv,bdT]
def zvI{k:Int}{l:List Ite}{n:Nat}{x:Ite}(h:l[n]? =some x)(Z:0<=x.Cut)(V:x.Color=false/\x.Value<=k)(U:¬x.Cut=0/\x.Cut<=k):(bdL k l n++[((n:Int),(n:Int)+1,(n:Int))])++[((n:Int)+1,(n:Int)+1,(-1:Int))]=bdL k l (n+1):=by simp_all[znI]
def zvJ{k:Int}{l:List Ite}{n:Nat}{x:Ite}(h:l[n]? =some x)(Z:0<=x.Cut)(V:x.Color=false/\x.Value<=k)(U:x.Cut=0\/k<x.Cut):bdL k l n++[((n:Int),(n:Int)+1,(n:Int))]=bdL k l (n+1):=by grind[znI]
def zvK{k:Int}{l:List Ite}{n:Nat}{x:Ite}(h:l[n]? =some x)(Z:0<=x.Cut)(V:x.Color=true\/k<x.Value)(U:¬x.Cut=0/\x.Cut<=k):bdL k l n++[((n:Int)+1,(n:Int)+1,(-1:Int))]=bdL k l (n+1):=by
 grind[znI]
def zvL{k:Int}{l:List Ite}{n:Nat}{x:Ite}(h:l[n]? =some x)(Z:0<=x.Cut)(V:x.Color=true\/k<x.Value)(U:x.Cut=0\/k<x.Cut):bdL k l n=bdL k l (n+1):=by
 grind[znI]
def znJ(k:Int)(l:List Ite)(n:Nat):(bdL k l n).length<=2*n+1:=by simp[bdL,ze2]
def bdsT(k:Int)(l:List Ite):List (Int×Int×Int):=(bds k l).map bdT
def zpQ(k:Int)(l:List Ite):bdL k l l.length++[((l.length:Int),(l.length:Int),(-1:Int))]=bdsT k l:=by
 unfold bdsT bds bdL;rw[xO];rfl
def zpR(k:Int)(l:List Ite):(bdsT k l).length=(bds k l).length:=by unfold bdsT;simp
def zgq{a b:Tm}(h:tmE a=tmE b):a=b:=by
 obtain⟨a1,a2⟩:=a;simp_all[tmE]
def zBl{L:List Tm}{s:Tm}{n:Nat}{t:Tm}(h:L[n]? =some t):sumF s (L.drop n)=if addE s t=0 then sumF (addV s t) (L.drop (n+1))else(tmZ,addE s t):=by
 grind[List.drop_eq_getElem_cons,sumF]
def znK{l:List Ite}{s:Sgm}{n:Nat}{x:Ite}(h:(itR l s)[n]? =some x):(drL (itR l s))[n]? =some x.Dur/\(0<=s.From->l[(s.From+n).toNat]? =some x):=by
 grind[drL,itR]
def zin{l:List Ite}{s:Sgm}(f0:0<=s.From)(ft:s.From<=s.To)(tn:s.To<=l.length):((itR l s).length:Int)=s.To-s.From:=by
 grind[itR]
theorem zpS:∀(L:List Tm)(t:Tm)(n:Nat),n<L.length->(pfF t L)[n]? =some (sumA t (L.take n))
 |[],t,n,h=>by simp at h
 |d::r,t,0,h=>rfl
 |d::r,t,n+1,h=>by
  have:=zpS r (addV t d) n (by simpa using h);simpa[pfF,sumA]using this
theorem zpT:∀(L:List Tm)(t:Tm),(pfF t L).length=L.length
 |[],t=>rfl
 |d::r,t=>by simp only[pfF,wH,zpT r]
theorem zuv{l:List Ite}{n:Nat}(h:n<l.length):(fsL l)[n]? =some (fsA l (n+1)):=by
 have Z:∀(L:List Tm)(t:Tm)(n:Nat),n<L.length->(smF t L)[n]? =some (sumA t (L.take (n+1))):=by
  intro L
  induction L with
  |nil=>intro t n h;simp at h
  |cons d r ih=>
   intro t n h;cases n with
   |zero=>rfl
   |succ n=>simpa[smF,sumA]using ih (addV t d) n (by simpa using h)
 simp_all[fsL,fsA,drL]
def zxG{l:List Ite}{w:Tm}(h:∀j,j<l.length->¬fsA l (j+1)=w):decide (w∈fsL l)=false:=by
 grind[List.getElem?_of_mem,zhX,zuv]
def zvM{l:List Ite}{w:Tm}{n:Nat}(Z:n<l.length)(h:fsA l (n+1)=w):decide (w∈fsL l)=true:=by
 rw[jU];exact j6 (h▸zuv Z)
def zpU(l:List Ite):fsA l l.length=sumA ⟨0,1⟩ (drL l):=by simp[fsA,jY,drL]
theorem znL{l:List Ite}{w:Tm}:w∈rlaL l↔∃j,j<l.length/\subE (fsA l l.length) (fsA l j)=0/\subV (fsA l l.length) (fsA l j)=w:=by
 unfold rlaL;rw[←zpU];simp only[jW,wO,w5];constructor
 ·grind[List.getElem?_of_mem,zpT,zpS,drL,fsA]
 ·rintro⟨j,T,Z,V⟩
  have U:j<(drL l).length:=by grind[drL]
  exact⟨fsA l j,⟨j6 (zpS _ _ _ U),Z⟩,V⟩
def zvN{l:List Ite}{w:Tm}(h:∀j,j<l.length->¬(subE (fsA l l.length) (fsA l j)=0/\subV (fsA l l.length) (fsA l j)=w)):decide (w∈rlaL l)=false:=by
 simp_all[znL]
def zsa{l:List Ite}{w:Tm}{n:Nat}(Z:n<l.length)(V:subE (fsA l l.length) (fsA l n)=0)(U:subV (fsA l l.length) (fsA l n)=w):decide (w∈rlaL l)=true:=by
 grind[znL]
attribute [local irreducible] bdL bdsT fsA fsL drL addV addE subV subE divV divE sumF itR
def zev(k:Int)(l:List Ite)(hl:l.length<=1000000)(I:∀x∈l,0<=x.Cut):Fn prog 321 [iv k,itsA l] (.sl brE (bdsT k l)):=by
 have H:=zxF k l;have T:=zpQ k l;refine kF func321 ntmps321 (λg w d=>?_);refine gq ?_;refine yD brE [((0:Int),(0:Int),(-1:Int))] ?_;refine yh ?_;apply yf;apply ye;refine yh ?_;apply kB;refine zu (λn=>[(0,iv k),(1,itsA l),(5,.own 8),(6,iv (n:Int))]) (λn=>[(8,.row brE (bdL k l n) 357 3)]) l.length (λn hk=>?_);refine gd ?_ ?_<;>intro G
 ·obtain⟨x,hx⟩:∃x,l[n]? =some x:=⟨_,lgg (by omega)⟩;have E:l[(n:Int).toNat]? =some x:=by simpa using hx
  have Z:=I x (j6 hx);have J:=znJ k l n;apply yk;apply yf;apply kB;apply yf;apply ye;iterate 6 refine ya ?_
  refine kI 6 ?_;refine yp ?_;iterate 7 refine kG ?_
  refine gf ?_ ?_<;>intro V
  ·refine gq ?_;refine yD brE [((n:Int),(n:Int)+1,(n:Int))] ?_;refine kK ?_;refine ya ?_;apply yG;(iterate 6 refine ya ?_);refine kI 6 ?_;refine yp ?_;(iterate 7 refine kG ?_);refine gf ?_ ?_<;>intro Q
   ·have U:=zvI hx Z V Q;refine gq ?_;refine yD brE [((n:Int)+1,(n:Int)+1,(-1:Int))] ?_;refine gq ?_;refine yz (n+1) (hI:=yi)
   ·have U:=zvJ hx Z V Q;refine gq ?_;refine yz (n+1) (hI:=yi)
  ·apply yk;apply ye;(iterate 6 refine ya ?_);refine kI 6 ?_;refine yp ?_;(iterate 7 refine kG ?_);refine gf ?_ ?_<;>intro N
   ·have U:=zvK hx Z V N;refine gq ?_;refine yD brE [((n:Int)+1,(n:Int)+1,(-1:Int))] ?_;refine gq ?_;refine yz (n+1) (hI:=yi)
   ·have U:=zvL hx Z V N;refine gq ?_;refine yz (n+1) (hI:=yi)
 ·have hn:n=l.length:=by omega
  subst hn;have J:=znJ k l l.length;refine gq ?_;refine yD brE [((l.length:Int),(l.length:Int),(-1:Int))] ?_;refine kK ?_;refine yh ?_;refine kE ?_;refine kA (k9 (k:=8) rfl) ?_;refine gq ?_;all_goals(first|exact j5 (λz=>AV.sl brE z) T|exact zE T)
set_option maxHeartbeats 1000000 in
def zcj(l:List Ite)(s:Sgm)(q:Tm)(hs:SgB l.length s)(hl:l.length<=1000000):Fn prog 366 [itsA l,smA s,tmA q] (.bool (decide (q∈fsL (itR l s)))):=by
 have f0:=hs.f0;have ft:=hs.ft;have tn:=hs.tn;have lf:=hs.lf;have rt:=hs.rt;have I:=zin f0 ft tn;have H:=znQ (itR l s);refine kF func366 ntmps366 (λg w d=>?_);refine gq ?_
 refine zd3 (ι:=Nat) (λ(n:Nat)=>[(0,itsA l),(4,.ptr 4 0 0 0),(5,.ptr 5 0 0 0),(7,.ptr 7 0 0 0),(8,iv (s.From+(n:Int)))]) (λ(n:Nat)=>[(4,.box (smE s) 317),(5,.box (tmE q) 83),(7,.box (tmE (fsA (itR l s) n)) 83)]) (λ(n:Nat)=>n<=(itR l s).length/\∀j,j<n->¬fsA (itR l s) (j+1)=q) (λ(n:Nat)=>(itR l s).length-n) 0 (λn G=>?_) (hJ:=by
  simp_all) (h0:=by exact yi)
 obtain⟨E,V⟩:=G;refine gd ?_ ?_<;>intro xT
 ·obtain⟨x,hx⟩:∃x,(itR l s)[n]? =some x:=⟨_,lgg (by omega)⟩;have U:=znK hx;have T:l[(s.From+(n:Int)).toNat]? =some x:=U.2 f0;have Q:=zp7 hx;obtain⟨Z,x4,x3⟩:=Q;have N:fsA (itR l s) (n+1)=addV (fsA (itR l s) n) x.Dur:=(zgq Z).symm;have x2:setAt (tmE (fsA (itR l s) n)) (0*0+0) (tmE (addV (fsA (itR l s) n) x.Dur))=tmE (fsA (itR l s) (n+1)):=Z;refine gq ?_;refine kW [⟨0,19,tmA (fsA (itR l s) n),[]⟩,⟨1,20,itsA l,[]⟩,⟨2,21,iv (s.From+(n:Int)),[]⟩,⟨3,22,.ept itE x 0,[2,1]⟩,⟨4,23,.ept itE x (0+6),[2,1,3]⟩,⟨5,24,tmA x.Dur,[2,1,3,4]⟩,⟨6,25,.tup [tmA (addV (fsA (itR l s) n) x.Dur),iv (addE (fsA (itR l s) n) x.Dur)],[2,1,3,4,5,0]⟩,⟨7,18,.tup [tmA (addV (fsA (itR l s) n) x.Dur),iv (addE (fsA (itR l s) n) x.Dur)],[2,1,3,4,5,0,6]⟩,⟨8,26,tmA (addV (fsA (itR l s) n) x.Dur),[2,1,3,4,5,0,6,7]⟩,⟨9,27,iv (addE (fsA (itR l s) n) x.Dur),[2,1,3,4,5,0,6,7]⟩] [(10,[7,5,4,3,2,1,0,6,8])] (λj=>match j with|0=>⟨[(0,itsA l),(4,.ptr 4 0 0 0),(5,.ptr 5 0 0 0),(7,.ptr 7 0 0 0),(8,iv (s.From+(n:Int)))],[(4,.box (smE s) 317),(5,.box (tmE q) 83),(7,.box (tmE (fsA (itR l s) n)) 83)]⟩|_=>⟨[(0,itsA l),(4,.ptr 4 0 0 0),(5,.ptr 5 0 0 0),(7,.ptr 7 0 0 0),(8,iv (s.From+(n:Int)))],[(4,.box (smE s) 317),(5,.box (tmE q) 83),(7,.box (tmE (addV (fsA (itR l s) n) x.Dur)) 83)]⟩) mo (by kernel_rfl) (zg (yd)) (λj hj=>?_) (λj c hc β hβ=>?_) ?_
  ·rcases j with _|_|j
   ·(iterate 3 refine⟨.inr ⟨_,rfl,rfl,rfl,rfl,k8 yJ⟩,?_⟩);refine⟨.inr ⟨_,rfl,rfl,rfl,rfl,k8 (zaj (enc:=itE) (l:=l) (u:=x) rfl rfl SlK.h TyK.h (λ_=>rfl) (by omega) T)⟩,?_⟩;(iterate 2 refine⟨.inr ⟨_,rfl,rfl,rfl,rfl,k8 yJ⟩,?_⟩);refine⟨.inr ⟨_,rfl,rfl,rfl,rfl,zT rfl rfl rfl (kS _) (yZ (fsA (itR l s) n) x.Dur)⟩,?_⟩;exact yw
   ·exact yw
   simp_all
  ·rcases j with _|j
   ·obtain rfl:(10,[7,5,4,3,2,1,0,6,8])=c:=by injection hc
    refine yo rfl (yn (st0:=⟨[(19,tmA (fsA (itR l s) n)),(20,itsA l),(21,iv (s.From+(n:Int))),(22,.ept itE x 0),(23,.ept itE x (0+6)),(24,tmA x.Dur),(25,.tup [tmA (addV (fsA (itR l s) n) x.Dur),iv (addE (fsA (itR l s) n) x.Dur)]),(18,.tup [tmA (addV (fsA (itR l s) n) x.Dur),iv (addE (fsA (itR l s) n) x.Dur)]),(26,tmA (addV (fsA (itR l s) n) x.Dur)),(27,.ifb (β 9) (iv (addE (fsA (itR l s) n) x.Dur))),(0,itsA l),(4,.ptr 4 0 0 0),(5,.ptr 5 0 0 0),(7,.ptr 7 0 0 0),(8,iv (s.From+(n:Int)))],[(4,.box (smE s) 317),(5,.box (tmE q) 83),(7,.box (tmE (fsA (itR l s) n)) 83)]⟩) (yl) ?_);refine yC.imp (zcb rfl rfl rfl rfl ty83 rfl (leB rfl)) (yl)
   simp_all
  refine gd ?_ ?_<;>intro J
  ·have hE:=zvM (l:=itR l s) (w:=q) (n:=n) (by omega) (N.trans J);refine gq ?_;all_goals rw[hE]
  refine gq ?_
  refine yz (n+1) (hJ:=by
   grind) (hI:=yi)
 ·have hE:=zxG (l:=itR l s) (w:=q) λj hj=>V j (by omega)
  refine gq ?_;all_goals rw[hE]
set_option maxHeartbeats 1000000 in
def zcI(l:List Ite)(s:Sgm)(q:Tm)(hs:SgB l.length s)(hl:l.length<=1000000):Fn prog 367 [itsA l,smA s,tmA q] (.bool (decide (q∈rlaL (itR l s)))):=by
 have f0:=hs.f0;have ft:=hs.ft;have tn:=hs.tn;have lf:=hs.lf;have rt:=hs.rt;have xT:=zin f0 ft tn;have x4:=znQ (itR l s);refine kF func367 ntmps367 (λg w d=>?_);apply ye;iterate 2 refine zH ?_
 refine ya ?_;apply yG;refine ya ?_;refine zk ?_;refine kK ?_;apply kQ;apply yf;apply ye;refine yE ?_;apply kB;refine zu (λn=>[(0,itsA l),(4,.ptr 4 0 0 0),(5,.ptr 5 0 0 0),(7,.ptr 7 0 0 0),(8,iv (s.From+(n:Int)))]) (λn=>[(4,.box (smE s) 317),(5,.box (tmE q) 83),(7,.box (tmE (fsA (itR l s) n)) 83)]) ((itR l s).length) (λn hk=>?_);refine gd ?_ ?_<;>intro x3
 ·obtain⟨x,hx⟩:∃x,(itR l s)[n]? =some x:=⟨_,lgg (by omega)⟩;have V:=znK hx;have U:l[(s.From+(n:Int)).toNat]? =some x:=V.2 f0;have T:=zp7 hx;obtain⟨Z,N,J⟩:=T;have I:fsA (itR l s) (n+1)=addV (fsA (itR l s) n) x.Dur:=(zgq Z).symm;have H:setAt (tmE (fsA (itR l s) n)) (0*0+0) (tmE (addV (fsA (itR l s) n) x.Dur))=tmE (fsA (itR l s) (n+1)):=Z;refine gq ?_;refine kW [⟨0,23,tmA (fsA (itR l s) n),[]⟩,⟨1,24,itsA l,[]⟩,⟨2,25,iv (s.From+(n:Int)),[]⟩,⟨3,26,.ept itE x 0,[2,1]⟩,⟨4,27,.ept itE x (0+6),[2,1,3]⟩,⟨5,28,tmA x.Dur,[2,1,3,4]⟩,⟨6,29,.tup [tmA (addV (fsA (itR l s) n) x.Dur),iv (addE (fsA (itR l s) n) x.Dur)],[2,1,3,4,5,0]⟩,⟨7,22,.tup [tmA (addV (fsA (itR l s) n) x.Dur),iv (addE (fsA (itR l s) n) x.Dur)],[2,1,3,4,5,0,6]⟩,⟨8,30,tmA (addV (fsA (itR l s) n) x.Dur),[2,1,3,4,5,0,6,7]⟩,⟨9,31,iv (addE (fsA (itR l s) n) x.Dur),[2,1,3,4,5,0,6,7]⟩] [(10,[7,5,4,3,2,1,0,6,8])] (λj=>match j with|0=>⟨[(0,itsA l),(4,.ptr 4 0 0 0),(5,.ptr 5 0 0 0),(7,.ptr 7 0 0 0),(8,iv (s.From+(n:Int)))],[(4,.box (smE s) 317),(5,.box (tmE q) 83),(7,.box (tmE (fsA (itR l s) n)) 83)]⟩|_=>⟨[(0,itsA l),(4,.ptr 4 0 0 0),(5,.ptr 5 0 0 0),(7,.ptr 7 0 0 0),(8,iv (s.From+(n:Int)))],[(4,.box (smE s) 317),(5,.box (tmE q) 83),(7,.box (tmE (addV (fsA (itR l s) n) x.Dur)) 83)]⟩) mo (by kernel_rfl) (zg (yd)) (λj hj=>?_) (λj c G β hβ=>?_) ?_
  ·rcases j with _|_|j
   ·(iterate 3 refine⟨.inr ⟨_,rfl,rfl,rfl,rfl,k8 yJ⟩,?_⟩);refine⟨.inr ⟨_,rfl,rfl,rfl,rfl,k8 (zaj (enc:=itE) (l:=l) (u:=x) rfl rfl SlK.h TyK.h (λ_=>rfl) (by omega) U)⟩,?_⟩;(iterate 2 refine⟨.inr ⟨_,rfl,rfl,rfl,rfl,k8 yJ⟩,?_⟩);refine⟨.inr ⟨_,rfl,rfl,rfl,rfl,zT rfl rfl rfl (kS _) (yZ (fsA (itR l s) n) x.Dur)⟩,?_⟩;exact yw
   ·exact yw
   simp_all
  ·rcases j with _|j
   ·obtain rfl:(10,[7,5,4,3,2,1,0,6,8])=c:=by injection G
    refine yo rfl (yn (st0:=⟨[(23,tmA (fsA (itR l s) n)),(24,itsA l),(25,iv (s.From+(n:Int))),(26,.ept itE x 0),(27,.ept itE x (0+6)),(28,tmA x.Dur),(29,.tup [tmA (addV (fsA (itR l s) n) x.Dur),iv (addE (fsA (itR l s) n) x.Dur)]),(22,.tup [tmA (addV (fsA (itR l s) n) x.Dur),iv (addE (fsA (itR l s) n) x.Dur)]),(30,tmA (addV (fsA (itR l s) n) x.Dur)),(31,.ifb (β 9) (iv (addE (fsA (itR l s) n) x.Dur))),(0,itsA l),(4,.ptr 4 0 0 0),(5,.ptr 5 0 0 0),(7,.ptr 7 0 0 0),(8,iv (s.From+(n:Int)))],[(4,.box (smE s) 317),(5,.box (tmE q) 83),(7,.box (tmE (fsA (itR l s) n)) 83)]⟩) (yl) ?_);refine yC.imp (zcb rfl rfl rfl rfl ty83 rfl (leB rfl)) (yl)
   simp_all
  refine gq ?_;refine yz (n+1) (hI:=yi)
 ·have hn:n=(itR l s).length:=by omega
  subst hn;refine gq ?_
  refine zd3 (ι:=Nat) (λ(n:Nat)=>[(0,itsA l),(4,.ptr 4 0 0 0),(5,.ptr 5 0 0 0),(7,.ptr 7 0 0 0),(9,.ptr 9 0 0 0),(10,iv (s.From+(n:Int)))]) (λ(n:Nat)=>[(4,.box (smE s) 317),(5,.box (tmE q) 83),(7,.box (tmE (fsA (itR l s) (itR l s).length)) 83),(9,.box (tmE (fsA (itR l s) n)) 83)]) (λ(n:Nat)=>n<=(itR l s).length/\∀j,j<n->¬(subE (fsA (itR l s) (itR l s).length) (fsA (itR l s) j)=0/\subV (fsA (itR l s) (itR l s).length) (fsA (itR l s) j)=q)) (λ(n:Nat)=>(itR l s).length-n) 0 (λn hk=>?_) (hJ:=by
   simp_all) (h0:=by exact yi)
  obtain⟨x2,E⟩:=hk;refine gd ?_ ?_<;>intro x1
  ·obtain⟨x,hx⟩:∃x,(itR l s)[n]? =some x:=⟨_,lgg (by omega)⟩;have V:=znK hx;have U:l[(s.From+(n:Int)).toNat]? =some x:=V.2 f0;have T:=zp7 hx;obtain⟨Z,N,J⟩:=T;have I:fsA (itR l s) (n+1)=addV (fsA (itR l s) n) x.Dur:=(zgq Z).symm;have H:setAt (tmE (fsA (itR l s) n)) (0*0+0) (tmE (addV (fsA (itR l s) n) x.Dur))=tmE (fsA (itR l s) (n+1)):=Z;refine gq ?_;refine yP (zaa (fsA (itR l s) (itR l s).length) (fsA (itR l s) n)) ?_;(iterate 3 refine ya ?_);refine zk ?_;refine kK ?_;refine yh ?_;apply yf;apply ye;(iterate 2 refine ya ?_);refine kI 2 ?_;refine yp ?_;(iterate 3 refine kG ?_);refine gf ?_ ?_<;>intro Q
   ·have hE:=zsa (l:=itR l s) (w:=q) (n:=n) (by omega) Q.1 Q.2;refine gq ?_;all_goals rw[hE]
   apply yk;refine kW [⟨0,55,tmA (fsA (itR l s) n),[]⟩,⟨1,56,itsA l,[]⟩,⟨2,57,iv (s.From+(n:Int)),[]⟩,⟨3,58,.ept itE x 0,[2,1]⟩,⟨4,59,.ept itE x (0+6),[2,1,3]⟩,⟨5,60,tmA x.Dur,[2,1,3,4]⟩,⟨6,61,.tup [tmA (addV (fsA (itR l s) n) x.Dur),iv (addE (fsA (itR l s) n) x.Dur)],[2,1,3,4,5,0]⟩,⟨7,54,.tup [tmA (addV (fsA (itR l s) n) x.Dur),iv (addE (fsA (itR l s) n) x.Dur)],[2,1,3,4,5,0,6]⟩,⟨8,62,tmA (addV (fsA (itR l s) n) x.Dur),[2,1,3,4,5,0,6,7]⟩,⟨9,63,iv (addE (fsA (itR l s) n) x.Dur),[2,1,3,4,5,0,6,7]⟩] [(10,[7,5,4,3,2,1,0,6,8])] (λj=>match j with|0=>⟨[(0,itsA l),(4,.ptr 4 0 0 0),(5,.ptr 5 0 0 0),(7,.ptr 7 0 0 0),(9,.ptr 9 0 0 0),(10,iv (s.From+(n:Int)))],[(4,.box (smE s) 317),(5,.box (tmE q) 83),(7,.box (tmE (fsA (itR l s) (itR l s).length)) 83),(9,.box (tmE (fsA (itR l s) n)) 83)]⟩|_=>⟨[(0,itsA l),(4,.ptr 4 0 0 0),(5,.ptr 5 0 0 0),(7,.ptr 7 0 0 0),(9,.ptr 9 0 0 0),(10,iv (s.From+(n:Int)))],[(4,.box (smE s) 317),(5,.box (tmE q) 83),(7,.box (tmE (fsA (itR l s) (itR l s).length)) 83),(9,.box (tmE (addV (fsA (itR l s) n) x.Dur)) 83)]⟩) mo (by kernel_rfl) (zg (yd)) (λj hj=>?_) (λj c G β hβ=>?_) ?_
   ·rcases j with _|_|j
    ·(iterate 3 refine⟨.inr ⟨_,rfl,rfl,rfl,rfl,k8 yJ⟩,?_⟩);refine⟨.inr ⟨_,rfl,rfl,rfl,rfl,k8 (zaj (enc:=itE) (l:=l) (u:=x) rfl rfl SlK.h TyK.h (λ_=>rfl) (by omega) U)⟩,?_⟩;(iterate 2 refine⟨.inr ⟨_,rfl,rfl,rfl,rfl,k8 yJ⟩,?_⟩);refine⟨.inr ⟨_,rfl,rfl,rfl,rfl,zT rfl rfl rfl (kS _) (yZ (fsA (itR l s) n) x.Dur)⟩,?_⟩;exact yw
    ·exact yw
    simp_all
   ·rcases j with _|j
    ·obtain rfl:(10,[7,5,4,3,2,1,0,6,8])=c:=by injection G
     refine yo rfl (yn (st0:=⟨[(55,tmA (fsA (itR l s) n)),(56,itsA l),(57,iv (s.From+(n:Int))),(58,.ept itE x 0),(59,.ept itE x (0+6)),(60,tmA x.Dur),(61,.tup [tmA (addV (fsA (itR l s) n) x.Dur),iv (addE (fsA (itR l s) n) x.Dur)]),(54,.tup [tmA (addV (fsA (itR l s) n) x.Dur),iv (addE (fsA (itR l s) n) x.Dur)]),(62,tmA (addV (fsA (itR l s) n) x.Dur)),(63,.ifb (β 9) (iv (addE (fsA (itR l s) n) x.Dur))),(0,itsA l),(4,.ptr 4 0 0 0),(5,.ptr 5 0 0 0),(7,.ptr 7 0 0 0),(9,.ptr 9 0 0 0),(10,iv (s.From+(n:Int)))],[(4,.box (smE s) 317),(5,.box (tmE q) 83),(7,.box (tmE (fsA (itR l s) (itR l s).length)) 83),(9,.box (tmE (fsA (itR l s) n)) 83)]⟩) (yl) ?_);refine yC.imp (zcb rfl rfl rfl rfl ty83 rfl (leB rfl)) (yl)
    simp_all
   refine gq ?_
   refine yz (n+1) (hJ:=by
    grind) (hI:=yi)
  ·have hE:=zvN (l:=itR l s) (w:=q) λj hj=>E j (by omega)
   refine gq ?_;all_goals rw[hE]
end
end Go.Rse
