/-
  Walks.
-/
import Derived.Test.YtamceaedmdmmlaaGreatDoorZJLvl11
set_option linter.all false
set_option maxHeartbeats 2000000
namespace Go.Rse
open Go Go.Proofs Go.Proofs.Tryz
attribute [local irreducible] Pur yy yz Ex X Fn Imp LeV LeB FnO It yH FnW FnOW
section
def zaP(m:Mn)(k:Int)(l:List Ite):(segV m k l).length<=2*l.length+2:=by
 unfold segV;split
 ·rw[jS,zer,zfd];have:=zfb k l l.length;omega
 ·simp
attribute [local irreducible] stK okJ alQ chN chL segV segE apE apV unT
def zhV(m:Mn)(k:Int)(l:List Ite)(M:List Int)(h0:-9223372036854775808<=k)(h1:k<=9223372036854775807)(hl:l.length<=1000000)(V:M.length<=4000000)(hE:¬segE m k l=0):Fn prog 160 [mnA m,iv k,itsA l,yc M] (.tup [itsA [],iv (segE m k l)]):=by
 refine kR func160 ntmps160 (λg w d=>?_);refine gc (zhm m k l h0 h1 hl hE) ?_;refine gd ?_ ?_<;>intro Z
 ·apply ye;refine yC ?_;refine kQ ?_;refine kM (yd (ts:=[(8,itsA []),(9,iv (segE m k l))]) (hs:=[])) ?_;refine yl ?_ ?_;all_goals exact zR
 exact absurd Z hE
def zhW(m:Mn)(k:Int)(l:List Ite)(M:List Int)(h0:-9223372036854775808<=k)(h1:k<=9223372036854775807)(hl:l.length<=1000000)(J:M.length<=4000000)(hE:segE m k l=0)(hX:(!decide ((M.length:Int)=((segV m k l).length:Int)))=true):Fn prog 160 [mnA m,iv k,itsA l,yc M] (.tup [itsA [],iv 2]):=by
 have U:=zaP m k l;have H:=zhE (zdA hE).1;have T:=zdQ hE;refine kR func160 ntmps160 (λg w d=>?_);refine gq ?_;refine zZ [(36,2000000),(30,2000001),(34,2000002)] (za0 m k l h0 h1 hl hE) ?_;refine gd ?_ ?_<;>intro V
 ·exact absurd rfl V
 apply yk;iterate 2 apply yh
 have N:((!decide ((M.length:Int)=((segV m k l).length:Int)))==false)=false:=by rw[hX];rfl
 ·apply yf;iterate 6 refine ya ?_
  iterate 5 refine zbQ ?_
  refine gd ?_ ?_<;>intro Z
  ·apply ye;refine yQ ?_;refine kQ ?_;refine kM (yd (ts:=[(8,itsA []),(9,iv 2)]) (hs:=[])) ?_;refine yl ?_ ?_;all_goals exact zR
  first|(exact absurd Z.2 (by decide))|(cases Z;done)|(exact absurd Z (by simp[hX]))|(simp[hX]at Z;done)|(rcases Z with h|h<;>first|(cases h;done)|(exact absurd h (by simpa using hX))|(simp[hX]at h;done)|(exact absurd h (by decide)))
def zhX(m:Mn)(k:Int)(l:List Ite)(M:List Int)(h0:-9223372036854775808<=k)(h1:k<=9223372036854775807)(hl:l.length<=1000000)(H:M.length<=4000000)(hE:segE m k l=0)(hX:(!decide ((M.length:Int)=((segV m k l).length:Int)))=false)(hok:okJ (unT m k) k (segV m k l) l M M.length=false)(hN:∀s∈segV m k l,0<=s.Count.N)(hMS:M.length<=(segV m k l).length):Fn prog 160 [mnA m,iv k,itsA l,yc M] (.tup [itsA [],iv 2]):=by
 have J:=zaP m k l;have G:=zhE (zdA hE).1;have V:=zdQ hE;refine kR func160 ntmps160 (λg w d=>?_);refine gq ?_;refine zZ [(36,2000000),(30,2000001),(34,2000002)] (za0 m k l h0 h1 hl hE) ?_;refine gd ?_ ?_<;>intro U
 ·exact absurd rfl U
 apply yk;iterate 2 apply yh
 have T:((!decide ((M.length:Int)=((segV m k l).length:Int)))==false)=true:=by rw[hX];rfl
 ·apply yf;iterate 6 refine ya ?_
  iterate 3 refine z8 ?_
  refine yU rfl rfl T ?_;refine zZ [(2000000,2000000),(2000001,2000001),(2000002,2000002)] (zef (unT m k) k (segV m k l) l M V hN hMS hl (by omega) (by omega) (by omega) hok) ?_;refine z8 ?_;refine gd ?_ ?_<;>intro Z
  ·apply ye;refine yQ ?_;refine kQ ?_;refine kM (yd (ts:=[(8,itsA []),(9,iv 2)]) (hs:=[])) ?_;refine yl ?_ ?_;all_goals exact zR
  first|(exact absurd Z.2 (by decide))|(cases Z;done)|(exact absurd Z (by simp[hX]))|(simp[hX]at Z;done)|(rcases Z with h|h<;>first|(cases h;done)|(exact absurd h (by simpa using hX))|(simp[hX]at h;done)|(exact absurd h (by decide)))
def zhY(m:Mn)(k:Int)(l:List Ite)(M:List Int)(h0:-9223372036854775808<=k)(h1:k<=9223372036854775807)(hl:l.length<=1000000)(G:M.length<=4000000)(hE:segE m k l=0)(hX:(!decide ((M.length:Int)=((segV m k l).length:Int)))=false)(hok:okJ (unT m k) k (segV m k l) l M M.length=true)(hN:∀s∈segV m k l,0<=s.Count.N)(hMS:M.length<=(segV m k l).length):Fn prog 160 [mnA m,iv k,itsA l,yc M] (.tup [itsA (stK (unT m k) (segV m k l) l M M.length).1,iv 0]):=by
 have J:=zaP m k l;have E:=zhE (zdA hE).1;have V:=zdQ hE;refine kR func160 ntmps160 (λg w d=>?_);refine gq ?_;refine zZ [(36,2000000),(30,2000001),(34,2000002)] (za0 m k l h0 h1 hl hE) ?_;refine gd ?_ ?_<;>intro U
 ·exact absurd rfl U
 apply yk;iterate 2 apply yh
 have T:((!decide ((M.length:Int)=((segV m k l).length:Int)))==false)=true:=by rw[hX];rfl
 ·apply yf;iterate 6 refine ya ?_
  iterate 3 refine z8 ?_
  refine yU rfl rfl T ?_;refine zZ [(2000000,2000000),(2000001,2000001),(2000002,2000002)] (zbD (unT m k) k (segV m k l) l M V hN hMS hl (by omega) (by omega) (by omega) hok) ?_;refine z8 ?_;refine gd ?_ ?_<;>intro Z
  ·first|(exact absurd Z.2 (by decide))|(cases Z;done)|(exact absurd Z (by simp[hX]))|(simp[hX]at Z;done)|(rcases Z with h|h<;>first|(cases h;done)|(exact absurd h (by simpa using hX))|(simp[hX]at h;done)|(exact absurd h (by decide)))
  apply yk;apply ye;refine ya ?_;refine ya ?_ (hs:=by exact yi rfl);iterate 2 refine ya ?_
  refine yC ?_;refine kQ ?_;refine kM (kL (k:=2000001) rfl) ?_;refine yl ?_ ?_;all_goals(first|exact j9 (λz=>yc z) H|rfl)
end
section
def brE:Int×Int×Int->List AV:=λp=>[iv p.1,iv p.2.1,iv p.2.2]
def bdT(b:Bd):Int×Int×Int:=(bdF b,b.next,b.item)
def bdL(k:Int)(l:List Ite)(n:Nat):List (Int×Int×Int):=(bdK k l n).map bdT
def zAs(k:Int)(l:List Ite):[((0:Int),(0:Int),(-1:Int))]=bdL k l 0:=by rfl
theorem zoJ{k:Int}{l:List Ite}{n:Nat}{x:Ite}(h:l[n]? =some x)(Z:0<=x.Cut):bdL k l (n+1)=(bdL k l n++if x.Color=false/\x.Value<=k then[((n:Int),(n:Int)+1,(n:Int))]else[])++if¬x.Cut=0/\x.Cut<=k then[((n:Int)+1,(n:Int)+1,(-1:Int))]else[]:=by
 grind[bdL,zdy,bdT]
def zxL{k:Int}{l:List Ite}{n:Nat}{x:Ite}(h:l[n]? =some x)(Z:0<=x.Cut)(V:x.Color=false/\x.Value<=k)(U:¬x.Cut=0/\x.Cut<=k):(bdL k l n++[((n:Int),(n:Int)+1,(n:Int))])++[((n:Int)+1,(n:Int)+1,(-1:Int))]=bdL k l (n+1):=by simp_all[zoJ]
def zxM{k:Int}{l:List Ite}{n:Nat}{x:Ite}(h:l[n]? =some x)(Z:0<=x.Cut)(V:x.Color=false/\x.Value<=k)(U:x.Cut=0\/k<x.Cut):bdL k l n++[((n:Int),(n:Int)+1,(n:Int))]=bdL k l (n+1):=by grind[zoJ]
def zxN{k:Int}{l:List Ite}{n:Nat}{x:Ite}(h:l[n]? =some x)(Z:0<=x.Cut)(V:x.Color=true\/k<x.Value)(U:¬x.Cut=0/\x.Cut<=k):bdL k l n++[((n:Int)+1,(n:Int)+1,(-1:Int))]=bdL k l (n+1):=by
 grind[zoJ]
def zxO{k:Int}{l:List Ite}{n:Nat}{x:Ite}(h:l[n]? =some x)(Z:0<=x.Cut)(V:x.Color=true\/k<x.Value)(U:x.Cut=0\/k<x.Cut):bdL k l n=bdL k l (n+1):=by
 grind[zoJ]
def zoK(k:Int)(l:List Ite)(n:Nat):(bdL k l n).length<=2*n+1:=by simp[bdL,zfb]
def bdsT(k:Int)(l:List Ite):List (Int×Int×Int):=(bds k l).map bdT
def zqZ(k:Int)(l:List Ite):bdL k l l.length++[((l.length:Int),(l.length:Int),(-1:Int))]=bdsT k l:=by
 unfold bdsT bds bdL;rw[xC];rfl
def zq0(k:Int)(l:List Ite):(bdsT k l).length=(bds k l).length:=by unfold bdsT;simp
def zgE{a b:Tm}(h:tmE a=tmE b):a=b:=by
 obtain⟨a1,a2⟩:=a;simp_all[tmE]
def zEs{L:List Tm}{s:Tm}{n:Nat}{t:Tm}(h:L[n]? =some t):sumF s (L.drop n)=if addE s t=0 then sumF (addV s t) (L.drop (n+1))else(tmZ,addE s t):=by
 grind[List.drop_eq_getElem_cons,sumF]
def zoL{l:List Ite}{s:Sgm}{n:Nat}{x:Ite}(h:(itR l s)[n]? =some x):(drL (itR l s))[n]? =some x.Dur/\(0<=s.From->l[(s.From+n).toNat]? =some x):=by
 grind[drL,itR]
def ziQ{l:List Ite}{s:Sgm}(f0:0<=s.From)(ft:s.From<=s.To)(tn:s.To<=l.length):((itR l s).length:Int)=s.To-s.From:=by
 grind[itR]
theorem zq1:∀(L:List Tm)(t:Tm)(n:Nat),n<L.length->(pfF t L)[n]? =some (sumA t (L.take n))
 |[],t,n,h=>by simp at h
 |d::r,t,0,h=>rfl
 |d::r,t,n+1,h=>by
  have:=zq1 r (addV t d) n (by simpa using h);simpa[pfF,sumA]using this
theorem zq2:∀(L:List Tm)(t:Tm),(pfF t L).length=L.length
 |[],t=>rfl
 |d::r,t=>by simp only[pfF,w8,zq2 r]
theorem zwf{l:List Ite}{n:Nat}(h:n<l.length):(fsL l)[n]? =some (fsA l (n+1)):=by
 have h1:∀(L:List Tm)(t:Tm)(n:Nat),n<L.length->(smF t L)[n]? =some (sumA t (L.take (n+1))):=by
  intro L
  induction L with
  |nil=>intro t n h;simp at h
  |cons d r ih=>
   intro t n h;cases n with
   |zero=>rfl
   |succ n=>simpa[smF,sumA]using ih (addV t d) n (by simpa using h)
 simp_all[fsL,fsA,drL]
def zAt{l:List Ite}{w:Tm}(h:∀j,j<l.length->¬fsA l (j+1)=w):decide (w∈fsL l)=false:=by
 grind[List.getElem?_of_mem,zic,zwf]
def zxP{l:List Ite}{w:Tm}{n:Nat}(hn:n<l.length)(h:fsA l (n+1)=w):decide (w∈fsL l)=true:=by
 rw[jZ];exact j8 (h▸zwf hn)
def zq3(l:List Ite):fsA l l.length=sumA ⟨0,1⟩ (drL l):=by simp[fsA,wC,drL]
theorem zoM{l:List Ite}{w:Tm}:w∈rlaL l↔∃j,j<l.length/\subE (fsA l l.length) (fsA l j)=0/\subV (fsA l l.length) (fsA l j)=w:=by
 unfold rlaL;rw[←zq3];simp only[jW,wU,w4];constructor
 ·grind[List.getElem?_of_mem,zq2,zq1,drL,fsA]
 ·rintro⟨j,h1,Z,V⟩
  have U:j<(drL l).length:=by grind[drL]
  exact⟨fsA l j,⟨j8 (zq1 _ _ _ U),Z⟩,V⟩
def zxQ{l:List Ite}{w:Tm}(h:∀j,j<l.length->¬(subE (fsA l l.length) (fsA l j)=0/\subV (fsA l l.length) (fsA l j)=w)):decide (w∈rlaL l)=false:=by
 simp_all[zoM]
def ztF{l:List Ite}{w:Tm}{n:Nat}(hn:n<l.length)(h1:subE (fsA l l.length) (fsA l n)=0)(Z:subV (fsA l l.length) (fsA l n)=w):decide (w∈rlaL l)=true:=by
 grind[zoM]
attribute [local irreducible] bdL bdsT fsA fsL drL addV addE subV subE divV divE sumF itR
def zet(k:Int)(l:List Ite)(hl:l.length<=1000000)(E:∀x∈l,0<=x.Cut):Fn prog 246 [iv k,itsA l] (.sl brE (bdsT k l)):=by
 have xT:=zAs k l;have T:=zqZ k l;refine kR func246 ntmps246 (λg w d=>?_);refine gq ?_;refine yD brE [((0:Int),(0:Int),(-1:Int))] ?_;refine yj ?_;apply yh;apply ye;refine yj ?_;apply kP;refine zm (λn=>[(0,iv k),(1,itsA l),(5,.own 8),(6,iv (n:Int))]) (λn=>[(8,.row brE (bdL k l n) 309 3)]) l.length (λn hk=>?_);refine gd ?_ ?_<;>intro x4
 ·have H:=@getX _ l n (by omega);obtain⟨x,hx,x3⟩:=H;have Z:=E x (j8 hx);have G:=zoK k l n;apply yk;apply yh;apply kP;apply yh;apply ye;iterate 6 refine ya ?_
  refine kU 6 ?_;refine yo ?_;iterate 7 refine kS ?_
  refine gf ?_ ?_<;>intro V
  ·refine gq ?_;refine yD brE [((n:Int),(n:Int)+1,(n:Int))] ?_;refine kV ?_;refine ya ?_;apply yE;(iterate 6 refine ya ?_);refine kU 6 ?_;refine yo ?_;(iterate 7 refine kS ?_);refine gf ?_ ?_<;>intro N
   ·have U:=zxL hx Z V N;refine gq ?_;refine yD brE [((n:Int)+1,(n:Int)+1,(-1:Int))] ?_;refine gq ?_;refine yu (n+1) (hI:=yg)
   ·have U:=zxM hx Z V N;refine gq ?_;refine yu (n+1) (hI:=yg)
  ·apply yk;apply ye;(iterate 6 refine ya ?_);refine kU 6 ?_;refine yo ?_;(iterate 7 refine kS ?_);refine gf ?_ ?_<;>intro J
   ·have U:=zxN hx Z V J;refine gq ?_;refine yD brE [((n:Int)+1,(n:Int)+1,(-1:Int))] ?_;refine gq ?_;refine yu (n+1) (hI:=yg)
   ·have U:=zxO hx Z V J;refine gq ?_;refine yu (n+1) (hI:=yg)
 ·have hn:n=l.length:=by omega
  subst hn;have G:=zoK k l l.length;refine gq ?_;refine yD brE [((l.length:Int),(l.length:Int),(-1:Int))] ?_;refine kV ?_;refine yj ?_;refine kQ ?_;refine kM (kL (k:=8) rfl) ?_;refine gq ?_;all_goals(first|exact j9 (λz=>AV.sl brE z) T|exact zE T)
def zco(l:List Ite)(s:Sgm)(q:Tm)(hs:SgB l.length s)(hl:l.length<=1000000):Fn prog 302 [itsA l,smA s,tmA q] (.bool (decide (q∈fsL (itR l s)))):=by
 have f0:=hs.f0;have ft:=hs.ft;have tn:=hs.tn;have lf:=hs.lf;have rt:=hs.rt;have G:=ziQ f0 ft tn;have E:=zoQ (itR l s);refine kR func302 ntmps302 (λg w d=>?_);refine gq ?_
 refine zen (ι:=Nat) (λ(n:Nat)=>[(0,itsA l),(4,.ptr 4 0 0 0),(5,.ptr 5 0 0 0),(7,.ptr 7 0 0 0),(8,iv (s.From+(n:Int)))]) (λ(n:Nat)=>[(4,.box (smE s) 260),(5,.box (tmE q) 61),(7,.box (tmE (fsA (itR l s) n)) 61)]) (λ(n:Nat)=>n<=(itR l s).length/\∀j,j<n->¬fsA (itR l s) (j+1)=q) (λ(n:Nat)=>(itR l s).length-n) 0 (λn hk=>?_) (hJ:=by
  simp_all) (h0:=by exact yg)
 obtain⟨xT,V⟩:=hk;refine gd ?_ ?_<;>intro x4
 ·obtain⟨x,hx⟩:∃x,(itR l s)[n]? =some x:=⟨_,lgg (by omega)⟩;have U:=zoL hx;have T:l[(s.From+(n:Int)).toNat]? =some x:=U.2 f0;have N:=zrd hx;obtain⟨Z,x3,x2⟩:=N;have J:fsA (itR l s) (n+1)=addV (fsA (itR l s) n) x.Dur:=(zgE Z).symm;have x1:setAt (tmE (fsA (itR l s) n)) (0*0+0) (tmE (addV (fsA (itR l s) n) x.Dur))=tmE (fsA (itR l s) (n+1)):=Z;refine gq ?_;refine bI [⟨0,19,tmA (fsA (itR l s) n),[]⟩,⟨1,20,itsA l,[]⟩,⟨2,21,iv (s.From+(n:Int)),[]⟩,⟨3,22,.ept itE x 0,[2,1]⟩,⟨4,23,.ept itE x (0+6),[2,1,3]⟩,⟨5,24,tmA x.Dur,[2,1,3,4]⟩,⟨6,25,.tup [tmA (addV (fsA (itR l s) n) x.Dur),iv (addE (fsA (itR l s) n) x.Dur)],[2,1,3,4,5,0]⟩,⟨7,18,.tup [tmA (addV (fsA (itR l s) n) x.Dur),iv (addE (fsA (itR l s) n) x.Dur)],[2,1,3,4,5,0,6]⟩,⟨8,26,tmA (addV (fsA (itR l s) n) x.Dur),[2,1,3,4,5,0,6,7]⟩,⟨9,27,iv (addE (fsA (itR l s) n) x.Dur),[2,1,3,4,5,0,6,7]⟩] [(10,[7,5,4,3,2,1,0,6,8])] (λj=>match j with|0=>⟨[(0,itsA l),(4,.ptr 4 0 0 0),(5,.ptr 5 0 0 0),(7,.ptr 7 0 0 0),(8,iv (s.From+(n:Int)))],[(4,.box (smE s) 260),(5,.box (tmE q) 61),(7,.box (tmE (fsA (itR l s) n)) 61)]⟩|_=>⟨[(0,itsA l),(4,.ptr 4 0 0 0),(5,.ptr 5 0 0 0),(7,.ptr 7 0 0 0),(8,iv (s.From+(n:Int)))],[(4,.box (smE s) 260),(5,.box (tmE q) 61),(7,.box (tmE (addV (fsA (itR l s) n) x.Dur)) 61)]⟩) mo (by kernel_rfl) (zj (yd)) (λj hj=>?_) (λj c hc β hβ=>?_) ?_
  ·rcases j with _|_|j
   ·(iterate 3 refine⟨.inr ⟨_,rfl,rfl,rfl,rfl,kK yK⟩,?_⟩);refine⟨.inr ⟨_,rfl,rfl,rfl,rfl,kK (zam (enc:=itE) (l:=l) (u:=x) rfl rfl SlK.h TyK.h (λ_=>rfl) (by omega) T)⟩,?_⟩;(iterate 2 refine⟨.inr ⟨_,rfl,rfl,rfl,rfl,kK yK⟩,?_⟩);refine⟨.inr ⟨_,rfl,rfl,rfl,rfl,z7 rfl rfl rfl (bC _) (y4 (fsA (itR l s) n) x.Dur)⟩,?_⟩;exact yF
   ·exact yF
   simp_all
  ·rcases j with _|j
   ·obtain rfl:(10,[7,5,4,3,2,1,0,6,8])=c:=by injection hc
    refine yp rfl (yn (st0:=⟨[(19,tmA (fsA (itR l s) n)),(20,itsA l),(21,iv (s.From+(n:Int))),(22,.ept itE x 0),(23,.ept itE x (0+6)),(24,tmA x.Dur),(25,.tup [tmA (addV (fsA (itR l s) n) x.Dur),iv (addE (fsA (itR l s) n) x.Dur)]),(18,.tup [tmA (addV (fsA (itR l s) n) x.Dur),iv (addE (fsA (itR l s) n) x.Dur)]),(26,tmA (addV (fsA (itR l s) n) x.Dur)),(27,.ifb (β 9) (iv (addE (fsA (itR l s) n) x.Dur))),(0,itsA l),(4,.ptr 4 0 0 0),(5,.ptr 5 0 0 0),(7,.ptr 7 0 0 0),(8,iv (s.From+(n:Int)))],[(4,.box (smE s) 260),(5,.box (tmE q) 61),(7,.box (tmE (fsA (itR l s) n)) 61)]⟩) (ym) ?_);refine yz.imp (zaV rfl rfl rfl rfl ty61 rfl (leB rfl)) (ym)
   simp_all
  refine gd ?_ ?_<;>intro H
  ·have hE:=zxP (l:=itR l s) (w:=q) (n:=n) (by omega) (J.trans H);refine gq ?_;all_goals rw[hE]
  refine gq ?_
  refine yu (n+1) (hJ:=by
   grind) (hI:=yg)
 ·have hE:=zAt (l:=itR l s) (w:=q) λj hj=>V j (by omega)
  refine gq ?_;all_goals rw[hE]
def zcM(l:List Ite)(s:Sgm)(q:Tm)(hs:SgB l.length s)(hl:l.length<=1000000):Fn prog 303 [itsA l,smA s,tmA q] (.bool (decide (q∈rlaL (itR l s)))):=by
 have f0:=hs.f0;have ft:=hs.ft;have tn:=hs.tn;have lf:=hs.lf;have rt:=hs.rt;have x4:=ziQ f0 ft tn;have x3:=zoQ (itR l s);refine kR func303 ntmps303 (λg w d=>?_);apply ye;iterate 2 refine zz ?_
 refine ya ?_;apply yE;refine ya ?_;refine za ?_;refine kV ?_;apply kW;apply yh;apply ye;refine yC ?_;apply kP;refine zm (λn=>[(0,itsA l),(4,.ptr 4 0 0 0),(5,.ptr 5 0 0 0),(7,.ptr 7 0 0 0),(8,iv (s.From+(n:Int)))]) (λn=>[(4,.box (smE s) 260),(5,.box (tmE q) 61),(7,.box (tmE (fsA (itR l s) n)) 61)]) ((itR l s).length) (λn hk=>?_);refine gd ?_ ?_<;>intro x2
 ·obtain⟨x,hx⟩:∃x,(itR l s)[n]? =some x:=⟨_,lgg (by omega)⟩;have V:=zoL hx;have U:l[(s.From+(n:Int)).toNat]? =some x:=V.2 f0;have T:=zrd hx;obtain⟨Z,J,H⟩:=T;have G:fsA (itR l s) (n+1)=addV (fsA (itR l s) n) x.Dur:=(zgE Z).symm;have E:setAt (tmE (fsA (itR l s) n)) (0*0+0) (tmE (addV (fsA (itR l s) n) x.Dur))=tmE (fsA (itR l s) (n+1)):=Z;refine gq ?_;refine bI [⟨0,23,tmA (fsA (itR l s) n),[]⟩,⟨1,24,itsA l,[]⟩,⟨2,25,iv (s.From+(n:Int)),[]⟩,⟨3,26,.ept itE x 0,[2,1]⟩,⟨4,27,.ept itE x (0+6),[2,1,3]⟩,⟨5,28,tmA x.Dur,[2,1,3,4]⟩,⟨6,29,.tup [tmA (addV (fsA (itR l s) n) x.Dur),iv (addE (fsA (itR l s) n) x.Dur)],[2,1,3,4,5,0]⟩,⟨7,22,.tup [tmA (addV (fsA (itR l s) n) x.Dur),iv (addE (fsA (itR l s) n) x.Dur)],[2,1,3,4,5,0,6]⟩,⟨8,30,tmA (addV (fsA (itR l s) n) x.Dur),[2,1,3,4,5,0,6,7]⟩,⟨9,31,iv (addE (fsA (itR l s) n) x.Dur),[2,1,3,4,5,0,6,7]⟩] [(10,[7,5,4,3,2,1,0,6,8])] (λj=>match j with|0=>⟨[(0,itsA l),(4,.ptr 4 0 0 0),(5,.ptr 5 0 0 0),(7,.ptr 7 0 0 0),(8,iv (s.From+(n:Int)))],[(4,.box (smE s) 260),(5,.box (tmE q) 61),(7,.box (tmE (fsA (itR l s) n)) 61)]⟩|_=>⟨[(0,itsA l),(4,.ptr 4 0 0 0),(5,.ptr 5 0 0 0),(7,.ptr 7 0 0 0),(8,iv (s.From+(n:Int)))],[(4,.box (smE s) 260),(5,.box (tmE q) 61),(7,.box (tmE (addV (fsA (itR l s) n) x.Dur)) 61)]⟩) mo (by kernel_rfl) (zj (yd)) (λj hj=>?_) (λj c hc β hβ=>?_) ?_
  ·rcases j with _|_|j
   ·(iterate 3 refine⟨.inr ⟨_,rfl,rfl,rfl,rfl,kK yK⟩,?_⟩);refine⟨.inr ⟨_,rfl,rfl,rfl,rfl,kK (zam (enc:=itE) (l:=l) (u:=x) rfl rfl SlK.h TyK.h (λ_=>rfl) (by omega) U)⟩,?_⟩;(iterate 2 refine⟨.inr ⟨_,rfl,rfl,rfl,rfl,kK yK⟩,?_⟩);refine⟨.inr ⟨_,rfl,rfl,rfl,rfl,z7 rfl rfl rfl (bC _) (y4 (fsA (itR l s) n) x.Dur)⟩,?_⟩;exact yF
   ·exact yF
   simp_all
  ·rcases j with _|j
   ·obtain rfl:(10,[7,5,4,3,2,1,0,6,8])=c:=by injection hc
    refine yp rfl (yn (st0:=⟨[(23,tmA (fsA (itR l s) n)),(24,itsA l),(25,iv (s.From+(n:Int))),(26,.ept itE x 0),(27,.ept itE x (0+6)),(28,tmA x.Dur),(29,.tup [tmA (addV (fsA (itR l s) n) x.Dur),iv (addE (fsA (itR l s) n) x.Dur)]),(22,.tup [tmA (addV (fsA (itR l s) n) x.Dur),iv (addE (fsA (itR l s) n) x.Dur)]),(30,tmA (addV (fsA (itR l s) n) x.Dur)),(31,.ifb (β 9) (iv (addE (fsA (itR l s) n) x.Dur))),(0,itsA l),(4,.ptr 4 0 0 0),(5,.ptr 5 0 0 0),(7,.ptr 7 0 0 0),(8,iv (s.From+(n:Int)))],[(4,.box (smE s) 260),(5,.box (tmE q) 61),(7,.box (tmE (fsA (itR l s) n)) 61)]⟩) (ym) ?_);refine yz.imp (zaV rfl rfl rfl rfl ty61 rfl (leB rfl)) (ym)
   simp_all
  refine gq ?_;refine yu (n+1) (hI:=yg)
 ·have hn:n=(itR l s).length:=by omega
  subst hn;refine gq ?_
  refine zen (ι:=Nat) (λ(n:Nat)=>[(0,itsA l),(4,.ptr 4 0 0 0),(5,.ptr 5 0 0 0),(7,.ptr 7 0 0 0),(9,.ptr 9 0 0 0),(10,iv (s.From+(n:Int)))]) (λ(n:Nat)=>[(4,.box (smE s) 260),(5,.box (tmE q) 61),(7,.box (tmE (fsA (itR l s) (itR l s).length)) 61),(9,.box (tmE (fsA (itR l s) n)) 61)]) (λ(n:Nat)=>n<=(itR l s).length/\∀j,j<n->¬(subE (fsA (itR l s) (itR l s).length) (fsA (itR l s) j)=0/\subV (fsA (itR l s) (itR l s).length) (fsA (itR l s) j)=q)) (λ(n:Nat)=>(itR l s).length-n) 0 (λn hk=>?_) (hJ:=by
   simp_all) (h0:=by exact yg)
  obtain⟨x1,xT⟩:=hk;refine gd ?_ ?_<;>intro x0
  ·obtain⟨x,hx⟩:∃x,(itR l s)[n]? =some x:=⟨_,lgg (by omega)⟩;have V:=zoL hx;have U:l[(s.From+(n:Int)).toNat]? =some x:=V.2 f0;have T:=zrd hx;obtain⟨Z,J,H⟩:=T;have G:fsA (itR l s) (n+1)=addV (fsA (itR l s) n) x.Dur:=(zgE Z).symm;have E:setAt (tmE (fsA (itR l s) n)) (0*0+0) (tmE (addV (fsA (itR l s) n) x.Dur))=tmE (fsA (itR l s) (n+1)):=Z;refine gq ?_;refine yR (zae (fsA (itR l s) (itR l s).length) (fsA (itR l s) n)) ?_;(iterate 3 refine ya ?_);refine za ?_;refine kV ?_;refine yj ?_;apply yh;apply ye;(iterate 2 refine ya ?_);refine kU 2 ?_;refine yo ?_;(iterate 3 refine kS ?_);refine gf ?_ ?_<;>intro N
   ·have hE:=ztF (l:=itR l s) (w:=q) (n:=n) (by omega) N.1 N.2;refine gq ?_;all_goals rw[hE]
   apply yk;refine bI [⟨0,55,tmA (fsA (itR l s) n),[]⟩,⟨1,56,itsA l,[]⟩,⟨2,57,iv (s.From+(n:Int)),[]⟩,⟨3,58,.ept itE x 0,[2,1]⟩,⟨4,59,.ept itE x (0+6),[2,1,3]⟩,⟨5,60,tmA x.Dur,[2,1,3,4]⟩,⟨6,61,.tup [tmA (addV (fsA (itR l s) n) x.Dur),iv (addE (fsA (itR l s) n) x.Dur)],[2,1,3,4,5,0]⟩,⟨7,54,.tup [tmA (addV (fsA (itR l s) n) x.Dur),iv (addE (fsA (itR l s) n) x.Dur)],[2,1,3,4,5,0,6]⟩,⟨8,62,tmA (addV (fsA (itR l s) n) x.Dur),[2,1,3,4,5,0,6,7]⟩,⟨9,63,iv (addE (fsA (itR l s) n) x.Dur),[2,1,3,4,5,0,6,7]⟩] [(10,[7,5,4,3,2,1,0,6,8])] (λj=>match j with|0=>⟨[(0,itsA l),(4,.ptr 4 0 0 0),(5,.ptr 5 0 0 0),(7,.ptr 7 0 0 0),(9,.ptr 9 0 0 0),(10,iv (s.From+(n:Int)))],[(4,.box (smE s) 260),(5,.box (tmE q) 61),(7,.box (tmE (fsA (itR l s) (itR l s).length)) 61),(9,.box (tmE (fsA (itR l s) n)) 61)]⟩|_=>⟨[(0,itsA l),(4,.ptr 4 0 0 0),(5,.ptr 5 0 0 0),(7,.ptr 7 0 0 0),(9,.ptr 9 0 0 0),(10,iv (s.From+(n:Int)))],[(4,.box (smE s) 260),(5,.box (tmE q) 61),(7,.box (tmE (fsA (itR l s) (itR l s).length)) 61),(9,.box (tmE (addV (fsA (itR l s) n) x.Dur)) 61)]⟩) mo (by kernel_rfl) (zj (yd)) (λj hj=>?_) (λj c hc β hβ=>?_) ?_
   ·rcases j with _|_|j
    ·(iterate 3 refine⟨.inr ⟨_,rfl,rfl,rfl,rfl,kK yK⟩,?_⟩);refine⟨.inr ⟨_,rfl,rfl,rfl,rfl,kK (zam (enc:=itE) (l:=l) (u:=x) rfl rfl SlK.h TyK.h (λ_=>rfl) (by omega) U)⟩,?_⟩;(iterate 2 refine⟨.inr ⟨_,rfl,rfl,rfl,rfl,kK yK⟩,?_⟩);refine⟨.inr ⟨_,rfl,rfl,rfl,rfl,z7 rfl rfl rfl (bC _) (y4 (fsA (itR l s) n) x.Dur)⟩,?_⟩;exact yF
    ·exact yF
    simp_all
   ·rcases j with _|j
    ·obtain rfl:(10,[7,5,4,3,2,1,0,6,8])=c:=by injection hc
     refine yp rfl (yn (st0:=⟨[(55,tmA (fsA (itR l s) n)),(56,itsA l),(57,iv (s.From+(n:Int))),(58,.ept itE x 0),(59,.ept itE x (0+6)),(60,tmA x.Dur),(61,.tup [tmA (addV (fsA (itR l s) n) x.Dur),iv (addE (fsA (itR l s) n) x.Dur)]),(54,.tup [tmA (addV (fsA (itR l s) n) x.Dur),iv (addE (fsA (itR l s) n) x.Dur)]),(62,tmA (addV (fsA (itR l s) n) x.Dur)),(63,.ifb (β 9) (iv (addE (fsA (itR l s) n) x.Dur))),(0,itsA l),(4,.ptr 4 0 0 0),(5,.ptr 5 0 0 0),(7,.ptr 7 0 0 0),(9,.ptr 9 0 0 0),(10,iv (s.From+(n:Int)))],[(4,.box (smE s) 260),(5,.box (tmE q) 61),(7,.box (tmE (fsA (itR l s) (itR l s).length)) 61),(9,.box (tmE (fsA (itR l s) n)) 61)]⟩) (ym) ?_);refine yz.imp (zaV rfl rfl rfl rfl ty61 rfl (leB rfl)) (ym)
    simp_all
   refine gq ?_
   refine yu (n+1) (hJ:=by
    grind) (hI:=yg)
  ·have hE:=zxQ (l:=itR l s) (w:=q) λj hj=>xT j (by omega)
   refine gq ?_;all_goals rw[hE]
end
end Go.Rse
