/-
  Walks.
-/
import Derived.Test.YtamceaedmdmmlaaGreatDoorZLvl14
set_option linter.all false
set_option maxHeartbeats 4000000
namespace Go.Rse
open Go Go.Proofs Go.Proofs.Tryz
section
attribute [local irreducible] Pur yy yz Ex X Fn Imp LeV LeB FnO It yH FnW FnOW
def ziR{u:Tm}{k:Int}{S:List Sgm}{l now:List Ite}{M:List Int}{n:Nat}:rfA u k S l now (M.take n) n=rfA u k S l now M n:=by
 have:rfLo (M.take n) n=rfLo M n:=by
  unfold rfLo;cases n with
  |zero=>rfl
  |succ n=>
   have:(M.take (n+1)).getD (n+1-1) 0=M.getD (n+1-1) 0:=by
    rw[jD,jD,wI,j6 (by omega)]
   rw[this]
 unfold rfA;simp only;rw[this]
def zf0{l:List Int}{j:Nat}{x:Int}(h:l[j]? =some x):l.take j++[x]=l.take (j+1):=by
 rw[jG,h];rfl
attribute [local irreducible] stK okJ alK alQ chN chL segV segE unT rfA
def zdR(m:Mn)(k:Int)(l:List Ite)(h0:-9223372036854775808<=k)(h1:k<=9223372036854775807)(hl:l.length<=1000000)(hE:¬segE m k l=0):Fn prog 210 [mnA m,iv k,itsA l] (.tup [.val (.pointer none),iv (segE m k l)]):=by
 refine kR func210 ntmps210 (λg w d=>?_);refine gc (zaC m k l h0 h1 hl) ?_;refine gd ?_ ?_<;>intro Z
 ·refine gq ?_;refine yl ?_ ?_;all_goals exact zR
 exact absurd Z hE
def zT(m:Mn)(k:Int)(l:List Ite)(h0:-9223372036854775808<=k)(h1:k<=9223372036854775807)(hl:l.length<=1000000)(hE:segE m k l=0):FnO prog 210 [mnA m,iv k,itsA l] [] [] (.tup [.ptr 36 0 0 0,iv 0]) [(36,.box [iv (unT m k).N,iv (unT m k).D,iv k,itsA l,.own 31,smsA (segV m k l),.own 40] 265),(31,.row itE l 129 12),(40,.row intE [] 3 1)]:=by
 refine bH (ts:=[(0,mnA m),(1,iv k),(2,itsA l)]) (rv:=[.tmp 6,.tmp 7]) (n:=37) (cs:=[]) (by kernel_rfl) func210 rfl ntmps210 rfl rfl (by simp) rfl rfl rfl rfl (λg w d vs=>?_);refine gc (zaC m k l h0 h1 hl) ?_;refine gd ?_ ?_<;>intro V
 ·exact absurd hE V
 refine gc (zcJ m k) ?_;refine bI [⟨0,28,tmA (unT m k),[]⟩,⟨1,29,iv k,[]⟩,⟨2,30,itsA l,[]⟩,⟨4,32,itsA l,[]⟩,⟨6,34,smsA (segV m k l),[]⟩] [(3,[]),(5,[4,3]),(7,[4,3,6,5,2,1,0]),(8,[4,3,6,5,2,1,0,7]),(9,[7,6,4,3,2,1,0,5,8]),(10,[8,7,6,5,4,3,2,1,0,9])] (λj=>match j with|0=>⟨[(1,iv k),(2,itsA l),(8,smsA (segV m k l)),(10,.ptr 10 0 0 0)],[(1000001,.hold vs []),(10,.box (tmE (unT m k)) 61)]⟩|1=>⟨[(1,iv k),(2,itsA l),(8,smsA (segV m k l)),(10,.ptr 10 0 0 0),(31,.own 31)],[(1000001,.hold vs []),(10,.box (tmE (unT m k)) 61),(31,.row itE [] 129 12)]⟩|2=>⟨[(1,iv k),(2,itsA l),(8,smsA (segV m k l)),(10,.ptr 10 0 0 0),(33,.own 31)],[(1000001,.hold vs []),(10,.box (tmE (unT m k)) 61),(31,.row itE l 129 12)]⟩|3=>⟨[(1,iv k),(2,itsA l),(8,smsA (segV m k l)),(10,.ptr 10 0 0 0),(35,.agg [iv (unT m k).N,iv (unT m k).D,iv k,itsA l,.own 31,smsA (segV m k l),.nils])],[(1000001,.hold vs []),(10,.box (tmE (unT m k)) 61),(31,.row itE l 129 12)]⟩|4=>⟨[(1,iv k),(2,itsA l),(8,smsA (segV m k l)),(10,.ptr 10 0 0 0),(36,.ptr 36 0 0 0)],[(1000001,.hold vs []),(36,.box [iv (unT m k).N,iv (unT m k).D,iv k,itsA l,.own 31,smsA (segV m k l),.nils] 265),(31,.row itE l 129 12)]⟩|5=>⟨[(1,iv k),(2,itsA l),(8,smsA (segV m k l)),(10,.ptr 10 0 0 0),(6,.ptr 36 0 0 0)],[(1000001,.hold vs []),(36,.box [iv (unT m k).N,iv (unT m k).D,iv k,itsA l,.own 31,smsA (segV m k l),.nils] 265),(31,.row itE l 129 12)]⟩|_=>⟨[(1,iv k),(2,itsA l),(8,smsA (segV m k l)),(10,.ptr 10 0 0 0),(6,.ptr 36 0 0 0),(7,iv 0)],[(1000001,.hold vs []),(36,.box [iv (unT m k).N,iv (unT m k).D,iv k,itsA l,.own 31,smsA (segV m k l),.nils] 265),(31,.row itE l 129 12)]⟩) mo (by kernel_rfl) (zj (yd)) (λj U=>?_) (λj c Z β hβ=>?_) ?_
 ·rcases j with _|_|_|_|_|_|_|j
  ·exact yF
  ·exact yF
  ·exact yF
  ·exact yF
  ·exact yF
  ·exact yF
  ·exact yF
  ·exact absurd (show j+7<=6 from U) (by omega)
 ·rcases j with _|_|_|_|_|_|j
  ·obtain rfl:(3,[])=c:=by injection Z
   refine yp rfl (yn (st0:=⟨[(28,.ifb (β 0) (tmA (unT m k))),(29,.ifb (β 1) (iv k)),(30,.ifb (β 2) (itsA l)),(32,.ifb (β 4) (itsA l)),(34,.ifb (β 6) (smsA (segV m k l))),(1,iv k),(2,itsA l),(8,smsA (segV m k l)),(10,.ptr 10 0 0 0)],[(1000001,.hold vs []),(10,.box (tmE (unT m k)) 61)]⟩) (ym) ?_);refine yz.imp (yL (zaj (k:=31) (enc:=itE) (l:=[]) zhT zkZ zsY (by decide) rfl rfl rfl rfl (by decide) (by decide) (λ_=>rfl) rfl) rfl rfl) (ym)
  ·obtain rfl:(5,[4,3])=c:=by injection Z
   refine yp rfl (yn (st0:=⟨[(28,.ifb (β 0) (tmA (unT m k))),(29,.ifb (β 1) (iv k)),(30,.ifb (β 2) (itsA l)),(32,itsA l),(34,.ifb (β 6) (smsA (segV m k l))),(1,iv k),(2,itsA l),(8,smsA (segV m k l)),(10,.ptr 10 0 0 0),(31,.own 31)],[(1000001,.hold vs []),(10,.box (tmE (unT m k)) 61),(31,.row itE [] 129 12)]⟩) (ym) ?_);refine yz.imp (zL (l:=[]) (l2:=l) rfl rfl rfl zhT zxc (by decide) (by decide) (λ_=>rfl) (λ_=>rfl) (by simp;omega) rfl) (ym)
  ·obtain rfl:(7,[4,3,6,5,2,1,0])=c:=by injection Z
   refine yp rfl (yn (st0:=⟨[(28,tmA (unT m k)),(29,iv k),(30,itsA l),(32,itsA l),(34,smsA (segV m k l)),(1,iv k),(2,itsA l),(8,smsA (segV m k l)),(10,.ptr 10 0 0 0),(33,.own 31)],[(1000001,.hold vs []),(10,.box (tmE (unT m k)) 61),(31,.row itE l 129 12)]⟩) (ym) ?_);refine yz.imp (yL (kK yK) rfl rfl) (ym)
  ·obtain rfl:(8,[4,3,6,5,2,1,0,7])=c:=by injection Z
   refine yp rfl (yn (st0:=⟨[(28,tmA (unT m k)),(29,iv k),(30,itsA l),(32,itsA l),(34,smsA (segV m k l)),(1,iv k),(2,itsA l),(8,smsA (segV m k l)),(10,.ptr 10 0 0 0),(35,.agg [iv (unT m k).N,iv (unT m k).D,iv k,itsA l,.own 31,smsA (segV m k l),.nils])],[(1000001,.hold vs []),(10,.box (tmE (unT m k)) 61),(31,.row itE l 129 12)]⟩) (ym) ?_);refine yz.imp (yL (zfl (k:=36) rfl rfl) rfl rfl) (ym)
  ·obtain rfl:(9,[7,6,4,3,2,1,0,5,8])=c:=by injection Z
   refine yp rfl (yn (st0:=⟨[(28,tmA (unT m k)),(29,iv k),(30,itsA l),(32,itsA l),(34,smsA (segV m k l)),(1,iv k),(2,itsA l),(8,smsA (segV m k l)),(10,.ptr 10 0 0 0),(36,.ptr 36 0 0 0)],[(1000001,.hold vs []),(36,.box [iv (unT m k).N,iv (unT m k).D,iv k,itsA l,.own 31,smsA (segV m k l),.nils] 265),(31,.row itE l 129 12)]⟩) (ym) ?_);refine yz.imp (yL (kK yK) rfl rfl) (ym)
  ·obtain rfl:(10,[8,7,6,5,4,3,2,1,0,9])=c:=by injection Z
   refine yp rfl (yn (st0:=⟨[(28,tmA (unT m k)),(29,iv k),(30,itsA l),(32,itsA l),(34,smsA (segV m k l)),(1,iv k),(2,itsA l),(8,smsA (segV m k l)),(10,.ptr 10 0 0 0),(6,.ptr 36 0 0 0)],[(1000001,.hold vs []),(36,.box [iv (unT m k).N,iv (unT m k).D,iv k,itsA l,.own 31,smsA (segV m k l),.nils] 265),(31,.row itE l 129 12)]⟩) (ym) ?_);refine yz.imp (yL (kK yK) rfl rfl) (ym)
  ·exact absurd Z (by simp)
 refine kQ ?_;refine zc9 (zda intE 3 1 36 40 6 265 _ [iv (unT m k).N,iv (unT m k).D,iv k,itsA l,.own 31,smsA (segV m k l),.own 40] rfl rfl rfl rfl) ?_;refine zkW.mk [(6,.ptr 36 0 0 0),(7,iv 0)] [] (.inr rfl) (.many (by decide) (.cons (.tmp rfl (kO ?_)) (.cons (.tmp rfl (kO ?_)) .nil)));all_goals rfl
def zeg(m:Mn)(k:Int)(l:List Ite)(M:List Int)(h0:-9223372036854775808<=k)(h1:k<=9223372036854775807)(hl:l.length<=1000000)(V:M.length<=1000000)(hE:¬segE m k l=0):Fn prog 142 [mnA m,iv k,itsA l,yc M] (.tup [itsA [],iv (segE m k l)]):=by
 refine kR func142 ntmps142 (λg w d=>?_);refine gc (zdR m k l h0 h1 hl hE) ?_;refine gd ?_ ?_<;>intro Z
 ·apply ye;refine yC ?_;refine kQ ?_;refine kM (yd (ts:=[(8,itsA []),(9,iv (segE m k l))]) (hs:=[])) ?_;refine yl ?_ ?_;all_goals exact zR
 exact absurd Z hE
def zeh(m:Mn)(k:Int)(l:List Ite)(M:List Int)(h0:-9223372036854775808<=k)(h1:k<=9223372036854775807)(hl:l.length<=1000000)(E:M.length<=1000000)(hE:segE m k l=0)(hX:(!decide ((M.length:Int)=((segV m k l).length:Int)))=true):Fn prog 142 [mnA m,iv k,itsA l,yc M] (.tup [itsA [],iv 2]):=by
 have T:=zaP m k l;have hu:=zhE (zdA hE).1;have N:=zdQ hE;have hF:=zgD hE;have J:=zcI (zdA hE).2.1;have U:∀x∈l,0<=x.Cut:=λx hx=>(zhj (J x hx)).1.2.2.1
 have H:l=(stK (unT m k) (segV m k l) l M 0).1:=by unfold stK;rfl
 have G:[]=M.take 0:=by simp
 refine kR func142 ntmps142 (λg w d=>?_);refine gq ?_;refine zZ [(36,2000000),(31,2000001),(40,2000002)] (zT m k l h0 h1 hl hE) ?_;refine gd ?_ ?_<;>intro Z
 ·exact absurd rfl Z
 apply yk;apply yh;apply ye;iterate 3 refine ya ?_
 refine ya ?_ (hs:=by exact yi rfl);refine gd ?_ ?_<;>intro V
 ·apply ye;refine yQ ?_;refine kQ ?_;refine kM (yd (ts:=[(8,itsA []),(9,iv 2)]) (hs:=[])) ?_;refine yl ?_ ?_;all_goals exact zR
 first|(exact absurd hX (by simp;omega))|(exact absurd hX (by simp[V]))|(simp at hX;omega)
def zei(m:Mn)(k:Int)(l:List Ite)(M:List Int)(h0:-9223372036854775808<=k)(h1:k<=9223372036854775807)(hl:l.length<=1000000)(hM:M.length<=1000000)(hE:segE m k l=0)(hX:(!decide ((M.length:Int)=((segV m k l).length:Int)))=false)(hN:∀s∈segV m k l,0<=s.Count.N)(hMS:M.length<=(segV m k l).length)(hok:okJ (unT m k) k (segV m k l) l M M.length=true):Fn prog 142 [mnA m,iv k,itsA l,yc M] (.tup [itsA (stK (unT m k) (segV m k l) l M M.length).1,iv 0]):=by
 have v8:=zaP m k l;have hu:=zhE (zdA hE).1;have V:=zdQ hE;have hF:=zgD hE;have hP:=zcI (zdA hE).2.1;have U:∀x∈l,0<=x.Cut:=λx hx=>(zhj (hP x hx)).1.2.2.1
 have v5:l=(stK (unT m k) (segV m k l) l M 0).1:=by unfold stK;rfl
 have v4:[]=M.take 0:=by simp
 refine kR func142 ntmps142 (λg w d=>?_);refine gq ?_;refine zZ [(36,2000000),(31,2000001),(40,2000002)] (zT m k l h0 h1 hl hE) ?_;refine gd ?_ ?_<;>intro E
 ·exact absurd rfl E
 apply yk;apply yh;apply ye;iterate 3 refine ya ?_
 refine ya ?_ (hs:=by exact yi rfl);refine gd ?_ ?_<;>intro T
 ·first|(exact absurd hX (by simp;omega))|(exact absurd hX (by simp[T]))|(simp at hX;omega)
 apply yk;apply yh;apply ye;refine yj ?_;apply kP;refine zm (λn=>[(3,yc M),(10,.ptr 2000000 0 0 0),(12,iv (n:Int))]) (λn=>[(2000000,.box [iv (unT m k).N,iv (unT m k).D,iv k,itsA l,.own 2000001,smsA (segV m k l),.own 2000002] 265),(2000001,.row itE ((stK (unT m k) (segV m k l) l M n).1) 129 12),(2000002,.row intE (M.take n) 3 1)]) M.length (λn hk=>?_);refine gd ?_ ?_<;>intro v3
 ·obtain⟨s,hs⟩:∃s,(segV m k l)[n]? =some s:=⟨_,lgg (by omega)⟩;have xT:=@getX _ M n (by omega);obtain⟨c,hc,T⟩:=xT;have x4:=zb7 (unT m k) (segV m k l) l M n;have J:=V.all s (j8 hs);have w2:=(zmI (u:=unT m k) (l:=l) hs hc).1;have v9:=zf0 hc;have x3:=hN s (j8 hs);have x2:=zmH (u:=unT m k) (k:=k) (l:=l) hs hc;have H:(M.take n).length=n:=by rw[jO];omega
  have x1:(segV m k l)[(M.take n).length]? =some s:=by rw[H];exact hs
  have x0:∀(hk:okJ (unT m k) k (segV m k l) l M n=true),rfA (unT m k) k (segV m k l) l (stK (unT m k) (segV m k l) l M n).1 (M.take n) (M.take n).length=alQ (unT m k) k (stK (unT m k) (segV m k l) l M n).1 (stK (unT m k) (segV m k l) l M n).2 s:=λhk=>by
   rw[H,ziR,zlq U V hF (by omega) hk];unfold alK;rw[show(segV m k l).getD n default=s by rw[jD,hs];rfl]
  have w9:=zhl hok (show n<=M.length by omega)
  have Z:c∈alQ (unT m k) k (stK (unT m k) (segV m k l) l M n).1 (stK (unT m k) (segV m k l) l M n).2 s:=by
   have h:=zhl hok (show n+1<=M.length by omega);rw[x2]at h;simpa using(xV.1 h).2
  refine gq ?_;refine zZ [(2000000,2000000),(2000001,2000001),(2000002,2000002),(2000012,2000012)] (zG (unT m k) k l (stK (unT m k) (segV m k l) l M n).1 (segV m k l) (M.take n) s x1 J.b hl x4 (by omega) (by omega) (by omega) x3 c (by rw[x0 w9];exact Z) (zfY J.ft Z)) ?_;refine bF (st':=⟨[(3,yc M),(10,.ptr 2000000 0 0 0),(12,iv (n:Int)),(42,.bool true)],[(2000000,.box [iv (unT m k).N,iv (unT m k).D,iv k,itsA l,.own 2000001,smsA (segV m k l),.own 2000012] 265),(2000001,.row itE ((stK (unT m k) (segV m k l) l M (n+1)).1) 129 12),(2000012,.row intE (M.take (n+1)) 3 1)]⟩) yg ?_;refine bF (st':=⟨[(3,yc M),(10,.ptr 2000000 0 0 0),(12,iv (n:Int)),(42,.bool true)],[(2000000,.box [iv (unT m k).N,iv (unT m k).D,iv k,itsA l,.own 2000001,smsA (segV m k l),.own 2000002] 265),(2000001,.row itE ((stK (unT m k) (segV m k l) l M (n+1)).1) 129 12),(2000002,.row intE (M.take (n+1)) 3 1)]⟩) ((bN 2000012 2000002 rfl rfl).trans yd) ?_;refine gd ?_ ?_<;>intro G
  ·first|(cases G;done)|(exact absurd G (by decide))
  refine gq ?_;refine yu (n+1) (hI:=yg)
 ·have hn:n=M.length:=by omega
  subst hn;apply bA;apply ye;refine ya ?_;refine ya ?_ (hs:=by exact yi rfl);refine ya ?_;refine yC ?_;refine kQ ?_;refine kM (kL (k:=2000001) rfl) ?_;refine yl ?_ ?_;all_goals rfl
def zej(m:Mn)(k:Int)(l:List Ite)(M:List Int)(h0:-9223372036854775808<=k)(h1:k<=9223372036854775807)(hl:l.length<=1000000)(hM:M.length<=1000000)(hE:segE m k l=0)(hX:(!decide ((M.length:Int)=((segV m k l).length:Int)))=false)(hN:∀s∈segV m k l,0<=s.Count.N)(hMS:M.length<=(segV m k l).length)(hok:okJ (unT m k) k (segV m k l) l M M.length=false):Fn prog 142 [mnA m,iv k,itsA l,yc M] (.tup [itsA [],iv 2]):=by
 have v5:=zaP m k l;have hu:=zhE (zdA hE).1;have T:=zdQ hE;have hF:=zgD hE;have hP:=zcI (zdA hE).2.1;have J:∀x∈l,0<=x.Cut:=λx hx=>(zhj (hP x hx)).1.2.2.1
 have v4:l=(stK (unT m k) (segV m k l) l M 0).1:=by unfold stK;rfl
 have v3:[]=M.take 0:=by simp
 refine kR func142 ntmps142 (λg w d=>?_);refine gq ?_;refine zZ [(36,2000000),(31,2000001),(40,2000002)] (zT m k l h0 h1 hl hE) ?_;refine gd ?_ ?_<;>intro x0
 ·exact absurd rfl x0
 apply yk;apply yh;apply ye;iterate 3 refine ya ?_
 refine ya ?_ (hs:=by exact yi rfl);refine gd ?_ ?_<;>intro H
 ·first|(exact absurd hX (by simp;omega))|(exact absurd hX (by simp[H]))|(simp at hX;omega)
 apply yk;apply yh;apply ye;refine yj ?_;apply kP;refine zW (λn=>[(3,yc M),(10,.ptr 2000000 0 0 0),(12,iv (n:Int))]) (λn=>[(2000000,.box [iv (unT m k).N,iv (unT m k).D,iv k,itsA l,.own 2000001,smsA (segV m k l),.own 2000002] 265),(2000001,.row itE ((stK (unT m k) (segV m k l) l M n).1) 129 12),(2000002,.row intE (M.take n) 3 1)]) (λn=>n<=M.length/\okJ (unT m k) k (segV m k l) l M n=true) M.length (λn hk=>?_) (hJ:=by exact⟨by omega,by unfold okJ;rfl⟩);obtain⟨v2,V⟩:=hk;refine gd ?_ ?_<;>intro v1
 ·obtain⟨s,hs⟩:∃s,(segV m k l)[n]? =some s:=⟨_,lgg (by omega)⟩;have w9:=@getX _ M n (by omega);obtain⟨c,hc,H⟩:=w9;have G:=zb7 (unT m k) (segV m k l) l M n;have U:=T.all s (j8 hs);have v9:=(zmI (u:=unT m k) (l:=l) hs hc).1;have v8:=zf0 hc;have E:=hN s (j8 hs);have w2:=zmH (u:=unT m k) (k:=k) (l:=l) hs hc;have xT:(M.take n).length=n:=by rw[jO];omega
  have x4:(segV m k l)[(M.take n).length]? =some s:=by rw[xT];exact hs
  have x3:∀(hk:okJ (unT m k) k (segV m k l) l M n=true),rfA (unT m k) k (segV m k l) l (stK (unT m k) (segV m k l) l M n).1 (M.take n) (M.take n).length=alQ (unT m k) k (stK (unT m k) (segV m k l) l M n).1 (stK (unT m k) (segV m k l) l M n).2 s:=λhk=>by
   rw[xT,ziR,zlq J T hF (by omega) hk];unfold alK;rw[show(segV m k l).getD n default=s by rw[jD,hs];rfl]
  apply yk;apply yh;apply kP;apply yh;by_cases Z:c∈alQ (unT m k) k (stK (unT m k) (segV m k l) l M n).1 (stK (unT m k) (segV m k l) l M n).2 s
  ·refine gq ?_;refine zZ [(2000000,2000000),(2000001,2000001),(2000002,2000002),(2000012,2000012)] (zG (unT m k) k l (stK (unT m k) (segV m k l) l M n).1 (segV m k l) (M.take n) s x4 U.b hl G (by omega) (by omega) (by omega) E c (by rw[x3 V];exact Z) (zfY U.ft Z)) ?_;refine bF (st':=⟨[(3,yc M),(10,.ptr 2000000 0 0 0),(12,iv (n:Int)),(42,.bool true)],[(2000000,.box [iv (unT m k).N,iv (unT m k).D,iv k,itsA l,.own 2000001,smsA (segV m k l),.own 2000012] 265),(2000001,.row itE ((stK (unT m k) (segV m k l) l M (n+1)).1) 129 12),(2000012,.row intE (M.take (n+1)) 3 1)]⟩) yg ?_;refine bF (st':=⟨[(3,yc M),(10,.ptr 2000000 0 0 0),(12,iv (n:Int)),(42,.bool true)],[(2000000,.box [iv (unT m k).N,iv (unT m k).D,iv k,itsA l,.own 2000001,smsA (segV m k l),.own 2000002] 265),(2000001,.row itE ((stK (unT m k) (segV m k l) l M (n+1)).1) 129 12),(2000002,.row intE (M.take (n+1)) 3 1)]⟩) ((bN 2000012 2000002 rfl rfl).trans yd) ?_;refine gd ?_ ?_<;>intro x2
   ·first|(cases x2;done)|(exact absurd x2 (by decide))
   refine gq ?_;refine yu (n+1) (hJ:=by exact⟨by omega,by rw[w2,V,jJ Z];rfl⟩) (hI:=yg)
  ·refine gq ?_;refine zZ [(2000000,2000000),(2000001,2000001),(2000002,2000002)] (zch (unT m k) k l (stK (unT m k) (segV m k l) l M n).1 (segV m k l) (M.take n) s x4 U.b hl G (by omega) (by omega) (by omega) E c (by rw[x3 V];exact Z)) ?_;refine gd ?_ ?_<;>intro x1
   ·apply ye;refine yQ ?_;refine kQ ?_;refine kM (yd (ts:=[(8,itsA []),(9,iv 2)]) (hs:=[])) ?_;refine yl ?_ ?_;all_goals exact zR
   first|(cases x1;done)|(exact absurd x1 (by decide))
 ·have hn:n=M.length:=by omega
  subst hn;exact absurd V (by rw[hok];decide)
end
section
attribute [local irreducible] Pur yy yz Ex X Fn Imp LeV LeB FnO It yH FnW FnOW
def ztG(n d:Int):0<=(tmkT n d).N:=by
 unfold tmkT;split
 ·rename_i h;unfold tmkE at h;split at h;all_goals simp_all[uA,gI]
 ·exact xF _
def zxR(u:Tm)(l:List Ite)(s:Sgm):0<=(cnV u l s).N:=by
 unfold cnV;split
 ·unfold divV;split
  ·split
   ·exact xF _
   ·unfold tmsV;split
    ·exact xF _
    ·exact ztG _ _
  ·exact xF _
 ·exact xF _
def zeu(m:Mn)(k:Int)(l:List Ite):∀s∈segV m k l,0<=s.Count.N:=by
 unfold segV;split
 ·intro s hs;obtain⟨t,ht,rfl⟩:=jW.1 hs;exact zxR _ _ _
 simp_all
section
variable{m:Mn}{k:Int}{l:List Ite}{M:List Int}
def zAu(h:¬segE m k l=0):apE m k l M=segE m k l/\apV m k l M=[]:=by
 simp_all[apE,apV]
def ztH(h:segE m k l=0)(Z:¬(segV m k l).length=M.length\/okJ (unT m k) k (segV m k l) l M M.length=false):apE m k l M=2/\apV m k l M=[]:=by
 simp_all[apE,apV]
def zAv(h:segE m k l=0)(Z:¬(¬(segV m k l).length=M.length\/okJ (unT m k) k (segV m k l) l M M.length=false)):apE m k l M=0/\apV m k l M=(stK (unT m k) (segV m k l) l M M.length).1:=by
 simp_all[apE,apV]
end
def zjW(m:Mn)(k:Int)(l:List Ite)(M:List Int)(h0:-9223372036854775808<=k)(h1:k<=9223372036854775807)(hl:l.length<=1000000)(V:M.length<=4000000):Fn prog 160 [mnA m,iv k,itsA l,yc M] (.tup [itsA (apV m k l M),iv (apE m k l M)]):=by
 by_cases hE:segE m k l=0
 ·by_cases hX:(segV m k l).length=M.length
  ·by_cases Z:okJ (unT m k) k (segV m k l) l M M.length=false
   ·obtain⟨e1,e2⟩:=ztH hE (.inr Z);rw[e1,e2];exact zhX m k l M h0 h1 hl V hE (by simp;omega) (hok:=Z) (hN:=zeu m k l) (hMS:=by omega)
   ·obtain⟨e1,e2⟩:=zAv hE (λh=>h.elim (λg=>g hX) Z);rw[e1,e2];exact zhY m k l M h0 h1 hl V hE (by simp;omega) (hok:=by simpa using Z) (hN:=zeu m k l) (hMS:=by omega)
  ·obtain⟨e1,e2⟩:=ztH hE (.inl hX);rw[e1,e2];exact zhW m k l M h0 h1 hl V hE (by simp;omega)
 simp_all[zAu,zhV]
def zfr(m:Mn)(k:Int)(l:List Ite)(M:List Int)(h0:-9223372036854775808<=k)(h1:k<=9223372036854775807)(hl:l.length<=1000000)(V:M.length<=1000000):Fn prog 142 [mnA m,iv k,itsA l,yc M] (.tup [itsA (apV m k l M),iv (apE m k l M)]):=by
 by_cases hE:segE m k l=0
 ·by_cases hX:(segV m k l).length=M.length
  ·by_cases Z:okJ (unT m k) k (segV m k l) l M M.length=false
   ·obtain⟨e1,e2⟩:=ztH hE (.inr Z);rw[e1,e2];exact zej m k l M h0 h1 hl V hE (by simp;omega) (hok:=Z) (hN:=zeu m k l) (hMS:=by omega)
   ·obtain⟨e1,e2⟩:=zAv hE (λh=>h.elim (λg=>g hX) Z);rw[e1,e2];exact zei m k l M h0 h1 hl V hE (by simp;omega) (hok:=by simpa using Z) (hN:=zeu m k l) (hMS:=by omega)
  ·obtain⟨e1,e2⟩:=ztH hE (.inl hX);rw[e1,e2];exact zeh m k l M h0 h1 hl V hE (by simp;omega)
 simp_all[zAu,zeg]
end
section
def wnL(s:Sgm):List Int:=
 if s.Free=true then[1,0]else if s.Count.N%3=0 then[0]else if s.Count.N%3=1 then[1,2]else if s.Count.N=2 then[4,3]else[3,4]
def chF(s:Sgm)(A:List Int):Option Int:=(wnL s).find? λc=>decide (c∈A)
def ztI{s:Sgm}{A:List Int}{c:Int}(h:chF s A=some c):c∈A:=by
 have:=List.find?_some h;simpa using this
def ztJ(s:Sgm):∀c∈wnL s,0<=c/\c<=4:=by
 grind[wnL]
theorem zq4{s:Sgm}{A:List Int}{c:Int}(h:chF s A=some c):0<=c/\c<=4:=ztJ s c (List.mem_of_find?_eq_some h)
def mdJ(u:Tm)(k:Int)(S:List Sgm)(l:List Ite):Nat->Option (List Int)
 |0=>some []
 |n+1=>match mdJ u k S l n with
  |none=>none
  |some M=>match chF (S.getD n default) (alK u k S l M n)with
   |none=>none
   |some c=>some (M++[c])
section
variable{u:Tm}{k:Int}{S:List Sgm}{l:List Ite}
def zq5{n:Nat}{M:List Int}(h:mdJ u k S l n=some M):mdJ u k S l (n+1)=match chF (S.getD n default) (alK u k S l M n)with
 |none=>none
 |some c=>some (M++[c]):=by simp_all[mdJ]
def zmJ{n:Nat}(h:mdJ u k S l n=none):∀j,mdJ u k S l (n+j)=none
 |0=>h
 |j+1=>by
  show mdJ u k S l (n+j+1)=none;unfold mdJ;rw[zmJ h j]
def zoN(M M2:List Int):∀n,n<=M.length->stK u S l (M++M2) n=stK u S l M n
 |0,_=>rfl
 |n+1,h=>by
  rw[zmD,zmD,zoN M M2 n (by omega)]
  grind
def zoO(M M2:List Int){n:Nat}(h:n<=M.length):alK u k S l (M++M2) n=alK u k S l M n:=by
 unfold alK;rw[zoN M M2 n h]
def zoP(M M2:List Int):∀n,n<=M.length->okJ u k S l (M++M2) n=okJ u k S l M n
 |0,_=>rfl
 |n+1,h=>by
  show(okJ u k S l (M++M2) n&&decide ((M++M2).getD n 0∈alK u k S l (M++M2) n))=(okJ u k S l M n&&decide (M.getD n 0∈alK u k S l M n));rw[zoP M M2 n (by omega),zoO M M2 (by omega)]
  grind
def ziS:∀{n:Nat}{M:List Int},mdJ u k S l n=some M->M.length=n/\okJ u k S l M n=true/\∀c∈M,0<=c/\c<=4
 |0,M,h=>by
  grind[mdJ,okJ]
 |n+1,M,h=>by
  cases hm:mdJ u k S l n with
  |none=>simp_all[mdJ]
  |some M1=>
   rw[zq5 hm]at h;obtain⟨i1,i2,i3⟩:=ziS hm;cases Z:chF (S.getD n default) (alK u k S l M1 n)with
   |none=>grind
   |some c=>
    rw[Z]at h;have:M1++[c]=M:=by injection h
    subst this;refine⟨by simp[i1],?_,?_⟩
    ·show(okJ u k S l (M1++[c]) n&&decide ((M1++[c]).getD n 0∈alK u k S l (M1++[c]) n))=true;rw[zoP M1 [c] n (by omega),zoO M1 [c] (by omega),i2]
     have:(M1++[c]).getD n 0=c:=by
      rw[jD,u6 (by omega),show n-M1.length=0 by omega];rfl
     rw[this,kH,jZ];exact ztI Z
    grind[zq4]
end
def cuO(m:Mn)(k:Int)(l:List Ite):Option (List Int):=mdJ (unT m k) k (segV m k l) l (segV m k l).length
def cuE(m:Mn)(k:Int)(l:List Ite):Int:=if segE m k l=0 then(if(cuO m k l).isSome then 0 else 14)else segE m k l
def cuV(m:Mn)(k:Int)(l:List Ite):List Int:=if cuE m k l=0 then(cuO m k l).getD []else[]
def zwg{m:Mn}{k:Int}{l:List Ite}(h:cuE m k l=0):segE m k l=0/\cuO m k l=some (cuV m k l):=by
 have Z:=h;unfold cuE at h;split at h
 ·rename_i h0;refine⟨h0,?_⟩;unfold cuV;rw[j6 Z];cases ho:cuO m k l with
  |none=>rw[ho]at h;simp at h
  |some M=>rfl
 omega
def zkn{m:Mn}{k:Int}{l:List Ite}(h:cuE m k l=0):apE m k l (cuV m k l)=0:=by
 obtain⟨h0,h1⟩:=zwg h;unfold cuO at h1;obtain⟨i1,i2,i3⟩:=ziS h1;simp_all[apE]
def lvF(m:Mn):List Int->List Ite->List Int->List Int×List Ite×Int
 |[],l,C=>(C,l,0)
 |k::r,l,C=>if cuE m k l=0 then lvF m r (apV m k l (cuV m k l)) (C++cuV m k l)else([],[],cuE m k l)
def zmK{m:Mn}{L:List Int}{n:Nat}{k:Int}(h:L[n]? =some k)(l:List Ite)(C:List Int):
 lvF m (L.drop n) l C=if cuE m k l=0 then lvF m (L.drop (n+1)) (apV m k l (cuV m k l)) (C++cuV m k l)else([],[],cuE m k l):=by
 grind[List.drop_eq_getElem_cons,lvF]
def leE(m:Mn)(l:List Ite):Int:=if ckM m=0 then(if ckIE l=0 then(lvF m (perfL m) l []).2.2 else ckIE l)else ckM m
def leC(m:Mn)(l:List Ite):List Int:=if leE m l=0 then(lvF m (perfL m) l []).1 else[]
def leI(m:Mn)(l:List Ite):List Ite:=if leE m l=0 then(lvF m (perfL m) l []).2.1 else[]
structure Rdg where
 Dots:List Int
 Minor:List Int
 Choices:List Int
 Durs:List Tm
 deriving DecidableEq
def rdgE(r:Rdg):List AV:=[yc r.Dots,yc r.Minor,yc r.Choices,tmsA r.Durs]
abbrev rdgA(r:Rdg):AV:=.agg (rdgE r)
end
end Go.Rse
