/-
  Walks.
-/
import Derived.Test.YtbopkhoalndflaaGreatDoorYLvl14
set_option linter.all false
namespace Go.Rse
open Go Go.Proofs Go.Proofs.Tryz
section
attribute [local irreducible] Pur yA yC Ex X Fn Imp LeV LeB FnO It yH FnW FnOW
def zio{u:Tm}{k:Int}{S:List Sgm}{l now:List Ite}{M:List Int}{n:Nat}:rfA u k S l now (M.take n) n=rfA u k S l now M n:=by
 have:rfLo (M.take n) n=rfLo M n:=by
  unfold rfLo;cases n with
  |zero=>rfl
  |succ n=>
   have:(M.take (n+1)).getD (n+1-1) 0=M.getD (n+1-1) 0:=by
    rw[j8,j8,w4,j3 (by omega)]
   rw[this]
 unfold rfA;simp only;rw[this]
def zfR{l:List Int}{j:Nat}{x:Int}(h:l[j]? =some x):l.take j++[x]=l.take (j+1):=by
 rw[jF,h];rfl
attribute [local irreducible] stK okJ alK alQ chN chL segV segE unT rfA
def zdO(m:Mn)(k:Int)(l:List Ite)(h0:-9223372036854775808<=k)(V:k<=9223372036854775807)(hl:l.length<=1000000)(hE:¬segE m k l=0):Fn prog 291 [mnA m,iv k,itsA l] (.tup [.val (.pointer none),iv (segE m k l)]):=by
 refine kF func291 ntmps291 (λg w d=>?_);refine gc (zax m k l h0 V hl) ?_;refine gd ?_ ?_<;>intro Z
 ·refine gq ?_;refine ym ?_ ?_;all_goals exact zR
 exact absurd Z hE
def zP(m:Mn)(k:Int)(l:List Ite)(h0:-9223372036854775808<=k)(U:k<=9223372036854775807)(hl:l.length<=1000000)(hE:segE m k l=0):FnO prog 291 [mnA m,iv k,itsA l] [] [] (.tup [.ptr 36 0 0 0,iv 0]) [(36,.box [iv (unT m k).N,iv (unT m k).D,iv k,itsA l,.own 31,smsA (segV m k l),.own 40] 322),(31,.row itE l 183 12),(40,.row intE [] 3 1)]:=by
 refine kX (ts:=[(0,mnA m),(1,iv k),(2,itsA l)]) (rv:=[.tmp 6,.tmp 7]) (n:=37) (cs:=[]) (by kernel_rfl) func291 rfl ntmps291 rfl rfl (by simp) rfl rfl rfl rfl (λg w d vs=>?_);refine gc (zax m k l h0 U hl) ?_;refine gd ?_ ?_<;>intro V
 ·exact absurd hE V
 refine gc (zcF m k) ?_;refine kW [⟨0,28,tmA (unT m k),[]⟩,⟨1,29,iv k,[]⟩,⟨2,30,itsA l,[]⟩,⟨4,32,itsA l,[]⟩,⟨6,34,smsA (segV m k l),[]⟩] [(3,[]),(5,[4,3]),(7,[4,3,6,5,2,1,0]),(8,[4,3,6,5,2,1,0,7]),(9,[7,6,4,3,2,1,0,5,8]),(10,[8,7,6,5,4,3,2,1,0,9])] (λj=>match j with|0=>⟨[(1,iv k),(2,itsA l),(8,smsA (segV m k l)),(10,.ptr 10 0 0 0)],[(1000001,.hold vs []),(10,.box (tmE (unT m k)) 83)]⟩|1=>⟨[(1,iv k),(2,itsA l),(8,smsA (segV m k l)),(10,.ptr 10 0 0 0),(31,.own 31)],[(1000001,.hold vs []),(10,.box (tmE (unT m k)) 83),(31,.row itE [] 183 12)]⟩|2=>⟨[(1,iv k),(2,itsA l),(8,smsA (segV m k l)),(10,.ptr 10 0 0 0),(33,.own 31)],[(1000001,.hold vs []),(10,.box (tmE (unT m k)) 83),(31,.row itE l 183 12)]⟩|3=>⟨[(1,iv k),(2,itsA l),(8,smsA (segV m k l)),(10,.ptr 10 0 0 0),(35,.agg [iv (unT m k).N,iv (unT m k).D,iv k,itsA l,.own 31,smsA (segV m k l),.nils])],[(1000001,.hold vs []),(10,.box (tmE (unT m k)) 83),(31,.row itE l 183 12)]⟩|4=>⟨[(1,iv k),(2,itsA l),(8,smsA (segV m k l)),(10,.ptr 10 0 0 0),(36,.ptr 36 0 0 0)],[(1000001,.hold vs []),(36,.box [iv (unT m k).N,iv (unT m k).D,iv k,itsA l,.own 31,smsA (segV m k l),.nils] 322),(31,.row itE l 183 12)]⟩|5=>⟨[(1,iv k),(2,itsA l),(8,smsA (segV m k l)),(10,.ptr 10 0 0 0),(6,.ptr 36 0 0 0)],[(1000001,.hold vs []),(36,.box [iv (unT m k).N,iv (unT m k).D,iv k,itsA l,.own 31,smsA (segV m k l),.nils] 322),(31,.row itE l 183 12)]⟩|_=>⟨[(1,iv k),(2,itsA l),(8,smsA (segV m k l)),(10,.ptr 10 0 0 0),(6,.ptr 36 0 0 0),(7,iv 0)],[(1000001,.hold vs []),(36,.box [iv (unT m k).N,iv (unT m k).D,iv k,itsA l,.own 31,smsA (segV m k l),.nils] 322),(31,.row itE l 183 12)]⟩) mo (by kernel_rfl) (zg (yd)) (λj T=>?_) (λj c Z β hβ=>?_) ?_
 ·rcases j with _|_|_|_|_|_|_|j
  ·exact yw
  ·exact yw
  ·exact yw
  ·exact yw
  ·exact yw
  ·exact yw
  ·exact yw
  ·exact absurd (show j+7<=6 from T) (by omega)
 ·rcases j with _|_|_|_|_|_|j
  ·obtain rfl:(3,[])=c:=by injection Z
   refine yo rfl (yn (st0:=⟨[(28,.ifb (β 0) (tmA (unT m k))),(29,.ifb (β 1) (iv k)),(30,.ifb (β 2) (itsA l)),(32,.ifb (β 4) (itsA l)),(34,.ifb (β 6) (smsA (segV m k l))),(1,iv k),(2,itsA l),(8,smsA (segV m k l)),(10,.ptr 10 0 0 0)],[(1000001,.hold vs []),(10,.box (tmE (unT m k)) 83)]⟩) (yl) ?_);refine yC.imp (yK (zD (k:=31) (enc:=itE) (l:=[]) zhB zkl zrF (by decide) rfl rfl rfl rfl (by decide) (by decide) (λ_=>rfl) rfl) rfl rfl) (yl)
  ·obtain rfl:(5,[4,3])=c:=by injection Z
   refine yo rfl (yn (st0:=⟨[(28,.ifb (β 0) (tmA (unT m k))),(29,.ifb (β 1) (iv k)),(30,.ifb (β 2) (itsA l)),(32,itsA l),(34,.ifb (β 6) (smsA (segV m k l))),(1,iv k),(2,itsA l),(8,smsA (segV m k l)),(10,.ptr 10 0 0 0),(31,.own 31)],[(1000001,.hold vs []),(10,.box (tmE (unT m k)) 83),(31,.row itE [] 183 12)]⟩) (yl) ?_);refine yC.imp (y6 (l:=[]) (l2:=l) rfl rfl rfl zhB zvo (by decide) (by decide) (λ_=>rfl) (λ_=>rfl) (by simp;omega) rfl) (yl)
  ·obtain rfl:(7,[4,3,6,5,2,1,0])=c:=by injection Z
   refine yo rfl (yn (st0:=⟨[(28,tmA (unT m k)),(29,iv k),(30,itsA l),(32,itsA l),(34,smsA (segV m k l)),(1,iv k),(2,itsA l),(8,smsA (segV m k l)),(10,.ptr 10 0 0 0),(33,.own 31)],[(1000001,.hold vs []),(10,.box (tmE (unT m k)) 83),(31,.row itE l 183 12)]⟩) (yl) ?_);refine yC.imp (yK (k8 yJ) rfl rfl) (yl)
  ·obtain rfl:(8,[4,3,6,5,2,1,0,7])=c:=by injection Z
   refine yo rfl (yn (st0:=⟨[(28,tmA (unT m k)),(29,iv k),(30,itsA l),(32,itsA l),(34,smsA (segV m k l)),(1,iv k),(2,itsA l),(8,smsA (segV m k l)),(10,.ptr 10 0 0 0),(35,.agg [iv (unT m k).N,iv (unT m k).D,iv k,itsA l,.own 31,smsA (segV m k l),.nils])],[(1000001,.hold vs []),(10,.box (tmE (unT m k)) 83),(31,.row itE l 183 12)]⟩) (yl) ?_);refine yC.imp (yK (zfg (k:=36) rfl rfl) rfl rfl) (yl)
  ·obtain rfl:(9,[7,6,4,3,2,1,0,5,8])=c:=by injection Z
   refine yo rfl (yn (st0:=⟨[(28,tmA (unT m k)),(29,iv k),(30,itsA l),(32,itsA l),(34,smsA (segV m k l)),(1,iv k),(2,itsA l),(8,smsA (segV m k l)),(10,.ptr 10 0 0 0),(36,.ptr 36 0 0 0)],[(1000001,.hold vs []),(36,.box [iv (unT m k).N,iv (unT m k).D,iv k,itsA l,.own 31,smsA (segV m k l),.nils] 322),(31,.row itE l 183 12)]⟩) (yl) ?_);refine yC.imp (yK (k8 yJ) rfl rfl) (yl)
  ·obtain rfl:(10,[8,7,6,5,4,3,2,1,0,9])=c:=by injection Z
   refine yo rfl (yn (st0:=⟨[(28,tmA (unT m k)),(29,iv k),(30,itsA l),(32,itsA l),(34,smsA (segV m k l)),(1,iv k),(2,itsA l),(8,smsA (segV m k l)),(10,.ptr 10 0 0 0),(6,.ptr 36 0 0 0)],[(1000001,.hold vs []),(36,.box [iv (unT m k).N,iv (unT m k).D,iv k,itsA l,.own 31,smsA (segV m k l),.nils] 322),(31,.row itE l 183 12)]⟩) (yl) ?_);refine yC.imp (yK (k8 yJ) rfl rfl) (yl)
  ·exact absurd Z (by simp)
 refine kE ?_;refine zc8 (zc9 intE 3 1 36 40 6 322 _ [iv (unT m k).N,iv (unT m k).D,iv k,itsA l,.own 31,smsA (segV m k l),.own 40] rfl rfl rfl rfl) ?_;refine zkj.mk [(6,.ptr 36 0 0 0),(7,iv 0)] [] (.inr rfl) (.many (by decide) (.cons (.tmp rfl (kC ?_)) (.cons (.tmp rfl (kC ?_)) .nil)));all_goals rfl
def zed(m:Mn)(k:Int)(l:List Ite)(M:List Int)(h0:-9223372036854775808<=k)(V:k<=9223372036854775807)(hl:l.length<=1000000)(U:M.length<=1000000)(hE:¬segE m k l=0):Fn prog 245 [mnA m,iv k,itsA l,yc M] (.tup [itsA [],iv (segE m k l)]):=by
 refine kF func245 ntmps245 (λg w d=>?_);refine gc (zdO m k l h0 V hl hE) ?_;refine gd ?_ ?_<;>intro Z
 ·apply ye;refine yE ?_;refine kE ?_;refine kA (yd (ts:=[(8,itsA []),(9,iv (segE m k l))]) (hs:=[])) ?_;refine ym ?_ ?_;all_goals exact zR
 exact absurd Z hE
def zee(m:Mn)(k:Int)(l:List Ite)(M:List Int)(h0:-9223372036854775808<=k)(T:k<=9223372036854775807)(hl:l.length<=1000000)(G:M.length<=1000000)(hE:segE m k l=0)(hX:(!decide ((M.length:Int)=((segV m k l).length:Int)))=true):Fn prog 245 [mnA m,iv k,itsA l,yc M] (.tup [itsA [],iv 2]):=by
 have Q:=zaJ m k l;have E:=zhp (zdx hE).1;have N:=zet hE;have hF:=zgp hE;have J:=zcE (zdx hE).2.1;have U:∀x∈l,0<=x.Cut:=λx hx=>(zg3 (J x hx)).1.2.2.1
 have I:l=(stK (unT m k) (segV m k l) l M 0).1:=by unfold stK;rfl
 have H:[]=M.take 0:=by simp
 refine kF func245 ntmps245 (λg w d=>?_);refine gq ?_;refine zV [(36,2000000),(31,2000001),(40,2000002)] (zP m k l h0 T hl hE) ?_;refine gd ?_ ?_<;>intro Z
 ·exact absurd rfl Z
 apply yk;apply yf;apply ye;iterate 3 refine ya ?_
 refine ya ?_ (hs:=by exact yg rfl);refine gd ?_ ?_<;>intro V
 ·apply ye;refine yO ?_;refine kE ?_;refine kA (yd (ts:=[(8,itsA []),(9,iv 2)]) (hs:=[])) ?_;refine ym ?_ ?_;all_goals exact zR
 first|(exact absurd hX (by simp;omega))|(exact absurd hX (by simp[V]))|(simp at hX;omega)
set_option maxHeartbeats 4000000 in
def zef(m:Mn)(k:Int)(l:List Ite)(M:List Int)(h0:-9223372036854775808<=k)(h1:k<=9223372036854775807)(hl:l.length<=1000000)(hM:M.length<=1000000)(hE:segE m k l=0)(hX:(!decide ((M.length:Int)=((segV m k l).length:Int)))=false)(hN:∀s∈segV m k l,0<=s.Count.N)(hMS:M.length<=(segV m k l).length)(hok:okJ (unT m k) k (segV m k l) l M M.length=true):Fn prog 245 [mnA m,iv k,itsA l,yc M] (.tup [itsA (stK (unT m k) (segV m k l) l M M.length).1,iv 0]):=by
 have v8:=zaJ m k l;have hu:=zhp (zdx hE).1;have V:=zet hE;have hF:=zgp hE;have hP:=zcE (zdx hE).2.1;have U:∀x∈l,0<=x.Cut:=λx hx=>(zg3 (hP x hx)).1.2.2.1
 have v5:l=(stK (unT m k) (segV m k l) l M 0).1:=by unfold stK;rfl
 have v4:[]=M.take 0:=by simp
 refine kF func245 ntmps245 (λg w d=>?_);refine gq ?_;refine zV [(36,2000000),(31,2000001),(40,2000002)] (zP m k l h0 h1 hl hE) ?_;refine gd ?_ ?_<;>intro G
 ·exact absurd rfl G
 apply yk;apply yf;apply ye;iterate 3 refine ya ?_
 refine ya ?_ (hs:=by exact yg rfl);refine gd ?_ ?_<;>intro T
 ·first|(exact absurd hX (by simp;omega))|(exact absurd hX (by simp[T]))|(simp at hX;omega)
 apply yk;apply yf;apply ye;refine yh ?_;apply kB;refine zu (λn=>[(3,yc M),(10,.ptr 2000000 0 0 0),(12,iv (n:Int))]) (λn=>[(2000000,.box [iv (unT m k).N,iv (unT m k).D,iv k,itsA l,.own 2000001,smsA (segV m k l),.own 2000002] 322),(2000001,.row itE ((stK (unT m k) (segV m k l) l M n).1) 183 12),(2000002,.row intE (M.take n) 3 1)]) M.length (λn E=>?_);refine gd ?_ ?_<;>intro v3
 ·obtain⟨s,hs⟩:∃s,(segV m k l)[n]? =some s:=⟨_,lgg (by omega)⟩;obtain⟨c,H⟩:∃c,M[n]? =some c:=⟨_,lgg (by omega)⟩;have T:M[(n:Int).toNat]? =some c:=by simpa using H
  have xT:=zb2 (unT m k) (segV m k l) l M n;have Q:=V.all s (j6 hs);have w2:=(zlS (u:=unT m k) (l:=l) hs H).1;have v9:=zfR H;have x4:=hN s (j6 hs);have x3:=zlR (u:=unT m k) (k:=k) (l:=l) hs H;have J:(M.take n).length=n:=by rw[jM];omega
  have x2:(segV m k l)[(M.take n).length]? =some s:=by rw[J];exact hs
  have x1:∀(E:okJ (unT m k) k (segV m k l) l M n=true),rfA (unT m k) k (segV m k l) l (stK (unT m k) (segV m k l) l M n).1 (M.take n) (M.take n).length=alQ (unT m k) k (stK (unT m k) (segV m k l) l M n).1 (stK (unT m k) (segV m k l) l M n).2 s:=λE=>by
   rw[J,zio,zkG U V hF (by omega) E];unfold alK;rw[show(segV m k l).getD n default=s by rw[j8,hs];rfl]
  have x0:=zg6 hok (show n<=M.length by omega)
  have Z:c∈alQ (unT m k) k (stK (unT m k) (segV m k l) l M n).1 (stK (unT m k) (segV m k l) l M n).2 s:=by
   have h:=zg6 hok (show n+1<=M.length by omega);rw[x3]at h;simpa using(vP.1 h).2
  refine gq ?_;refine zV [(2000000,2000000),(2000001,2000001),(2000002,2000002),(2000012,2000012)] (zC (unT m k) k l (stK (unT m k) (segV m k l) l M n).1 (segV m k l) (M.take n) s x2 Q.b hl xT (by omega) (by omega) (by omega) x4 c (by rw[x1 x0];exact Z) (zg5 Q.ft Z)) ?_;refine kU (st':=⟨[(3,yc M),(10,.ptr 2000000 0 0 0),(12,iv (n:Int)),(42,.bool true)],[(2000000,.box [iv (unT m k).N,iv (unT m k).D,iv k,itsA l,.own 2000001,smsA (segV m k l),.own 2000012] 322),(2000001,.row itE ((stK (unT m k) (segV m k l) l M (n+1)).1) 183 12),(2000012,.row intE (M.take (n+1)) 3 1)]⟩) yi ?_;refine kU (st':=⟨[(3,yc M),(10,.ptr 2000000 0 0 0),(12,iv (n:Int)),(42,.bool true)],[(2000000,.box [iv (unT m k).N,iv (unT m k).D,iv k,itsA l,.own 2000001,smsA (segV m k l),.own 2000002] 322),(2000001,.row itE ((stK (unT m k) (segV m k l) l M (n+1)).1) 183 12),(2000002,.row intE (M.take (n+1)) 3 1)]⟩) ((bD 2000012 2000002 rfl rfl).trans yd) ?_;refine gd ?_ ?_<;>intro I
  ·first|(cases I;done)|(exact absurd I (by decide))
  refine gq ?_;refine yz (n+1) (hI:=yi)
 ·have hn:n=M.length:=by omega
  subst hn;apply kO;apply ye;refine ya ?_;refine ya ?_ (hs:=by exact yg rfl);refine ya ?_;refine yE ?_;refine kE ?_;refine kA (k9 (k:=2000001) rfl) ?_;refine ym ?_ ?_;all_goals rfl
set_option maxHeartbeats 4000000 in
def zeg(m:Mn)(k:Int)(l:List Ite)(M:List Int)(h0:-9223372036854775808<=k)(h1:k<=9223372036854775807)(hl:l.length<=1000000)(hM:M.length<=1000000)(hE:segE m k l=0)(hX:(!decide ((M.length:Int)=((segV m k l).length:Int)))=false)(hN:∀s∈segV m k l,0<=s.Count.N)(hMS:M.length<=(segV m k l).length)(hok:okJ (unT m k) k (segV m k l) l M M.length=false):Fn prog 245 [mnA m,iv k,itsA l,yc M] (.tup [itsA [],iv 2]):=by
 have v9:=zaJ m k l;have hu:=zhp (zdx hE).1;have T:=zet hE;have hF:=zgp hE;have hP:=zcE (zdx hE).2.1;have Q:∀x∈l,0<=x.Cut:=λx hx=>(zg3 (hP x hx)).1.2.2.1
 have v8:l=(stK (unT m k) (segV m k l) l M 0).1:=by unfold stK;rfl
 have v5:[]=M.take 0:=by simp
 refine kF func245 ntmps245 (λg w d=>?_);refine gq ?_;refine zV [(36,2000000),(31,2000001),(40,2000002)] (zP m k l h0 h1 hl hE) ?_;refine gd ?_ ?_<;>intro x2
 ·exact absurd rfl x2
 apply yk;apply yf;apply ye;iterate 3 refine ya ?_
 refine ya ?_ (hs:=by exact yg rfl);refine gd ?_ ?_<;>intro J
 ·first|(exact absurd hX (by simp;omega))|(exact absurd hX (by simp[J]))|(simp at hX;omega)
 apply yk;apply yf;apply ye;refine yh ?_;apply kB;refine zM (λn=>[(3,yc M),(10,.ptr 2000000 0 0 0),(12,iv (n:Int))]) (λn=>[(2000000,.box [iv (unT m k).N,iv (unT m k).D,iv k,itsA l,.own 2000001,smsA (segV m k l),.own 2000002] 322),(2000001,.row itE ((stK (unT m k) (segV m k l) l M n).1) 183 12),(2000002,.row intE (M.take n) 3 1)]) (λn=>n<=M.length/\okJ (unT m k) k (segV m k l) l M n=true) M.length (λn hk=>?_) (hJ:=by exact⟨by omega,by unfold okJ;rfl⟩);obtain⟨v4,V⟩:=hk;refine gd ?_ ?_<;>intro v3
 ·obtain⟨s,hs⟩:∃s,(segV m k l)[n]? =some s:=⟨_,lgg (by omega)⟩;obtain⟨c,hc⟩:∃c,M[n]? =some c:=⟨_,lgg (by omega)⟩;have J:M[(n:Int).toNat]? =some c:=by simpa using hc
  have I:=zb2 (unT m k) (segV m k l) l M n;have U:=T.all s (j6 hs);have x0:=(zlS (u:=unT m k) (l:=l) hs hc).1;have w2:=zfR hc;have H:=hN s (j6 hs);have x1:=zlR (u:=unT m k) (k:=k) (l:=l) hs hc;have G:(M.take n).length=n:=by rw[jM];omega
  have E:(segV m k l)[(M.take n).length]? =some s:=by rw[G];exact hs
  have xT:∀(hk:okJ (unT m k) k (segV m k l) l M n=true),rfA (unT m k) k (segV m k l) l (stK (unT m k) (segV m k l) l M n).1 (M.take n) (M.take n).length=alQ (unT m k) k (stK (unT m k) (segV m k l) l M n).1 (stK (unT m k) (segV m k l) l M n).2 s:=λhk=>by
   rw[G,zio,zkG Q T hF (by omega) hk];unfold alK;rw[show(segV m k l).getD n default=s by rw[j8,hs];rfl]
  apply yk;apply yf;apply kB;apply yf;by_cases Z:c∈alQ (unT m k) k (stK (unT m k) (segV m k l) l M n).1 (stK (unT m k) (segV m k l) l M n).2 s
  ·refine gq ?_;refine zV [(2000000,2000000),(2000001,2000001),(2000002,2000002),(2000012,2000012)] (zC (unT m k) k l (stK (unT m k) (segV m k l) l M n).1 (segV m k l) (M.take n) s E U.b hl I (by omega) (by omega) (by omega) H c (by rw[xT V];exact Z) (zg5 U.ft Z)) ?_;refine kU (st':=⟨[(3,yc M),(10,.ptr 2000000 0 0 0),(12,iv (n:Int)),(42,.bool true)],[(2000000,.box [iv (unT m k).N,iv (unT m k).D,iv k,itsA l,.own 2000001,smsA (segV m k l),.own 2000012] 322),(2000001,.row itE ((stK (unT m k) (segV m k l) l M (n+1)).1) 183 12),(2000012,.row intE (M.take (n+1)) 3 1)]⟩) yi ?_;refine kU (st':=⟨[(3,yc M),(10,.ptr 2000000 0 0 0),(12,iv (n:Int)),(42,.bool true)],[(2000000,.box [iv (unT m k).N,iv (unT m k).D,iv k,itsA l,.own 2000001,smsA (segV m k l),.own 2000002] 322),(2000001,.row itE ((stK (unT m k) (segV m k l) l M (n+1)).1) 183 12),(2000002,.row intE (M.take (n+1)) 3 1)]⟩) ((bD 2000012 2000002 rfl rfl).trans yd) ?_;refine gd ?_ ?_<;>intro x4
   ·first|(cases x4;done)|(exact absurd x4 (by decide))
   refine gq ?_;refine yz (n+1) (hJ:=by exact⟨by omega,by rw[x1,V,jJ Z];rfl⟩) (hI:=yi)
  ·refine gq ?_;refine zV [(2000000,2000000),(2000001,2000001),(2000002,2000002)] (zcc (unT m k) k l (stK (unT m k) (segV m k l) l M n).1 (segV m k l) (M.take n) s E U.b hl I (by omega) (by omega) (by omega) H c (by rw[xT V];exact Z)) ?_;refine gd ?_ ?_<;>intro x3
   ·apply ye;refine yO ?_;refine kE ?_;refine kA (yd (ts:=[(8,itsA []),(9,iv 2)]) (hs:=[])) ?_;refine ym ?_ ?_;all_goals exact zR
   first|(cases x3;done)|(exact absurd x3 (by decide))
 ·have hn:n=M.length:=by omega
  subst hn;exact absurd V (by rw[hok];decide)
end
section
attribute [local irreducible] Pur yA yC Ex X Fn Imp LeV LeB FnO It yH FnW FnOW
def zsb(n d:Int):0<=(tmkT n d).N:=by
 unfold tmkT;split
 ·rename_i h;unfold tmkE at h;split at h;all_goals simp_all[wU,gI]
 ·exact x8 _
def zvO(u:Tm)(l:List Ite)(s:Sgm):0<=(cnV u l s).N:=by
 unfold cnV;split
 ·unfold divV;split
  ·split
   ·exact x8 _
   ·unfold tmsV;split
    ·exact x8 _
    ·exact zsb _ _
  ·exact x8 _
 ·exact x8 _
def zew(m:Mn)(k:Int)(l:List Ite):∀s∈segV m k l,0<=s.Count.N:=by
 unfold segV;split
 ·intro s hs;obtain⟨t,ht,rfl⟩:=jW.1 hs;exact zvO _ _ _
 simp_all
section
variable{m:Mn}{k:Int}{l:List Ite}{M:List Int}
def zxH(h:¬segE m k l=0):apE m k l M=segE m k l/\apV m k l M=[]:=by
 simp_all[apE,apV]
def zsc(h:segE m k l=0)(Z:¬(segV m k l).length=M.length\/okJ (unT m k) k (segV m k l) l M M.length=false):apE m k l M=2/\apV m k l M=[]:=by
 simp_all[apE,apV]
def zxI(h:segE m k l=0)(Z:¬(¬(segV m k l).length=M.length\/okJ (unT m k) k (segV m k l) l M M.length=false)):apE m k l M=0/\apV m k l M=(stK (unT m k) (segV m k l) l M M.length).1:=by
 simp_all[apE,apV]
end
def zjq(m:Mn)(k:Int)(l:List Ite)(M:List Int)(h0:-9223372036854775808<=k)(V:k<=9223372036854775807)(hl:l.length<=1000000)(U:M.length<=4000000):Fn prog 256 [mnA m,iv k,itsA l,yc M] (.tup [itsA (apV m k l M),iv (apE m k l M)]):=by
 by_cases hE:segE m k l=0
 ·by_cases hX:(segV m k l).length=M.length
  ·by_cases Z:okJ (unT m k) k (segV m k l) l M M.length=false
   ·obtain⟨e1,e2⟩:=zsc hE (.inr Z);rw[e1,e2];exact zhE m k l M h0 V hl U hE (by simp;omega) (hok:=Z) (hN:=zew m k l) (hMS:=by omega)
   ·obtain⟨e1,e2⟩:=zxI hE (λh=>h.elim (λg=>g hX) Z);rw[e1,e2];exact zhF m k l M h0 V hl U hE (by simp;omega) (hok:=by simpa using Z) (hN:=zew m k l) (hMS:=by omega)
  ·obtain⟨e1,e2⟩:=zsc hE (.inl hX);rw[e1,e2];exact zhD m k l M h0 V hl U hE (by simp;omega)
 simp_all[zxH,zhC]
def zfn(m:Mn)(k:Int)(l:List Ite)(M:List Int)(h0:-9223372036854775808<=k)(V:k<=9223372036854775807)(hl:l.length<=1000000)(U:M.length<=1000000):Fn prog 245 [mnA m,iv k,itsA l,yc M] (.tup [itsA (apV m k l M),iv (apE m k l M)]):=by
 by_cases hE:segE m k l=0
 ·by_cases hX:(segV m k l).length=M.length
  ·by_cases Z:okJ (unT m k) k (segV m k l) l M M.length=false
   ·obtain⟨e1,e2⟩:=zsc hE (.inr Z);rw[e1,e2];exact zeg m k l M h0 V hl U hE (by simp;omega) (hok:=Z) (hN:=zew m k l) (hMS:=by omega)
   ·obtain⟨e1,e2⟩:=zxI hE (λh=>h.elim (λg=>g hX) Z);rw[e1,e2];exact zef m k l M h0 V hl U hE (by simp;omega) (hok:=by simpa using Z) (hN:=zew m k l) (hMS:=by omega)
  ·obtain⟨e1,e2⟩:=zsc hE (.inl hX);rw[e1,e2];exact zee m k l M h0 V hl U hE (by simp;omega)
 simp_all[zxH,zed]
end
section
def wnL(s:Sgm):List Int:=
 if s.Free=true then[1,0]else if s.Count.N%3=0 then[0]else if s.Count.N%3=1 then[1,2]else if s.Count.N=2 then[4,3]else[3,4]
def chF(s:Sgm)(A:List Int):Option Int:=(wnL s).find? λc=>decide (c∈A)
def zsd{s:Sgm}{A:List Int}{c:Int}(h:chF s A=some c):c∈A:=by
 have:=List.find?_some h;simpa using this
def zse(s:Sgm):∀c∈wnL s,0<=c/\c<=4:=by
 grind[wnL]
theorem zpV{s:Sgm}{A:List Int}{c:Int}(h:chF s A=some c):0<=c/\c<=4:=zse s c (List.mem_of_find?_eq_some h)
def mdJ(u:Tm)(k:Int)(S:List Sgm)(l:List Ite):Nat->Option (List Int)
 |0=>some []
 |n+1=>match mdJ u k S l n with
  |none=>none
  |some M=>match chF (S.getD n default) (alK u k S l M n)with
   |none=>none
   |some c=>some (M++[c])
section
variable{u:Tm}{k:Int}{S:List Sgm}{l:List Ite}
def zpW{n:Nat}{M:List Int}(h:mdJ u k S l n=some M):mdJ u k S l (n+1)=match chF (S.getD n default) (alK u k S l M n)with
 |none=>none
 |some c=>some (M++[c]):=by simp_all[mdJ]
def zlT{n:Nat}(h:mdJ u k S l n=none):∀j,mdJ u k S l (n+j)=none
 |0=>h
 |j+1=>by
  show mdJ u k S l (n+j+1)=none;unfold mdJ;rw[zlT h j]
def znM(M M2:List Int):∀n,n<=M.length->stK u S l (M++M2) n=stK u S l M n
 |0,_=>rfl
 |n+1,h=>by
  rw[znA,znA,znM M M2 n (by omega)]
  grind
def znN(M M2:List Int){n:Nat}(h:n<=M.length):alK u k S l (M++M2) n=alK u k S l M n:=by
 unfold alK;rw[znM M M2 n h]
def znO(M M2:List Int):∀n,n<=M.length->okJ u k S l (M++M2) n=okJ u k S l M n
 |0,_=>rfl
 |n+1,h=>by
  show(okJ u k S l (M++M2) n&&decide ((M++M2).getD n 0∈alK u k S l (M++M2) n))=(okJ u k S l M n&&decide (M.getD n 0∈alK u k S l M n));rw[znO M M2 n (by omega),znN M M2 (by omega)]
  grind
def ziq:∀{n:Nat}{M:List Int},mdJ u k S l n=some M->M.length=n/\okJ u k S l M n=true/\∀c∈M,0<=c/\c<=4
 |0,M,h=>by
  grind[mdJ,okJ]
 |n+1,M,h=>by
  cases hm:mdJ u k S l n with
  |none=>simp_all[mdJ]
  |some M1=>
   rw[zpW hm]at h;obtain⟨i1,i2,i3⟩:=ziq hm;cases Z:chF (S.getD n default) (alK u k S l M1 n)with
   |none=>grind
   |some c=>
    rw[Z]at h;have:M1++[c]=M:=by injection h
    subst this;refine⟨by simp[i1],?_,?_⟩
    ·show(okJ u k S l (M1++[c]) n&&decide ((M1++[c]).getD n 0∈alK u k S l (M1++[c]) n))=true;rw[znO M1 [c] n (by omega),znN M1 [c] (by omega),i2]
     have:(M1++[c]).getD n 0=c:=by
      rw[j8,wY (by omega),show n-M1.length=0 by omega];rfl
     rw[this,k6,jU];exact zsd Z
    grind[zpV]
end
def cuO(m:Mn)(k:Int)(l:List Ite):Option (List Int):=mdJ (unT m k) k (segV m k l) l (segV m k l).length
def cuE(m:Mn)(k:Int)(l:List Ite):Int:=if segE m k l=0 then(if(cuO m k l).isSome then 0 else 14)else segE m k l
def cuV(m:Mn)(k:Int)(l:List Ite):List Int:=if cuE m k l=0 then(cuO m k l).getD []else[]
def zuw{m:Mn}{k:Int}{l:List Ite}(h:cuE m k l=0):segE m k l=0/\cuO m k l=some (cuV m k l):=by
 have Z:=h;unfold cuE at h;split at h
 ·rename_i h0;refine⟨h0,?_⟩;unfold cuV;rw[j3 Z];cases ho:cuO m k l with
  |none=>rw[ho]at h;simp at h
  |some M=>rfl
 omega
def zlU{m:Mn}{k:Int}{l:List Ite}(h:cuE m k l=0):apE m k l (cuV m k l)=0:=by
 obtain⟨h0,Z⟩:=zuw h;unfold cuO at Z;obtain⟨i1,i2,i3⟩:=ziq Z;simp_all[apE]
def lvF(m:Mn):List Int->List Ite->List Int->List Int×List Ite×Int
 |[],l,C=>(C,l,0)
 |k::r,l,C=>if cuE m k l=0 then lvF m r (apV m k l (cuV m k l)) (C++cuV m k l)else([],[],cuE m k l)
def zlV{m:Mn}{L:List Int}{n:Nat}{k:Int}(h:L[n]? =some k)(l:List Ite)(C:List Int):
 lvF m (L.drop n) l C=if cuE m k l=0 then lvF m (L.drop (n+1)) (apV m k l (cuV m k l)) (C++cuV m k l)else([],[],cuE m k l):=by
 grind[List.drop_eq_getElem_cons,lvF]
def leE(m:Mn)(l:List Ite):Int:=if ckM m=0 then(if ckIE l=0 then(lvF m (perfL m) l []).2.2 else ckIE l)else ckM m
def leC(m:Mn)(l:List Ite):List Int:=if leE m l=0 then(lvF m (perfL m) l []).1 else[]
def leI(m:Mn)(l:List Ite):List Ite:=if leE m l=0 then(lvF m (perfL m) l []).2.1 else[]
structure Rdg where
 Dots:List Int
 Minor:List Int
 Choices:List Int
 Durs:List Tm
 deriving DecidableEq
def rdgE(r:Rdg):List AV:=[yc r.Dots,yc r.Minor,yc r.Choices,tmsA r.Durs]
abbrev rdgA(r:Rdg):AV:=.agg (rdgE r)
end
section
def muF(m:Mn)(k:Int)(l:List Ite)(n:Nat):List Int:=(mdJ (unT m k) k (segV m k l) l n).getD []
def muI(m:Mn)(k:Int)(l:List Ite)(n:Nat):Bool:=(mdJ (unT m k) k (segV m k l) l n).isSome
section
variable{m:Mn}{k:Int}{l:List Ite}{n:Nat}
def zB0:muF m k l 0=[]:=rfl
def zux:muI m k l 0=true:=rfl
def zgr(h:muI m k l n=true):mdJ (unT m k) k (segV m k l) l n=some (muF m k l n):=by
 unfold muI at h;obtain⟨M,e⟩:=wE.1 h;unfold muF;rw[e];rfl
def zir(h:muI m k l n=true):(muF m k l n).length=n:=(ziq (zgr h)).1
def zuy(h:muI m k l n=true):okJ (unT m k) k (segV m k l) l (muF m k l n) (muF m k l n).length=true:=by
 rw[zir h];exact(ziq (zgr h)).2.1
abbrev akF(m:Mn)(k:Int)(l:List Ite)(n:Nat):List Int:=alK (unT m k) k (segV m k l) l (muF m k l n) (muF m k l n).length
def zxJ{s:Sgm}{c:Int}(h:muI m k l n=true)(hs:(segV m k l)[n]? =some s)(Z:chF s (akF m k l n)=some c):muI m k l (n+1)=true/\muF m k l n++[c]=muF m k l (n+1):=by
 have V:=zpW (zgr h);unfold akF at Z;rw[zir h]at Z;rw[show(segV m k l).getD n default=s by rw[j8,hs];rfl,Z]at V;unfold muI;rw[V];refine⟨rfl,?_⟩;conv=>rhs;unfold muF
 rw[V];rfl
def zxK(h:¬segE m k l=0):cuE m k l=segE m k l/\cuV m k l=[]:=by
 have:cuE m k l=segE m k l:=by unfold cuE;rw[j4 h]
 refine⟨this,?_⟩;unfold cuV;rw[this,j4 h]
def zxL{s:Sgm}(h0:segE m k l=0)(h:muI m k l n=true)(hs:(segV m k l)[n]? =some s)(Z:chF s (akF m k l n)=none):cuE m k l=14/\cuV m k l=[]:=by
 have V:=zpW (zgr h);unfold akF at Z;rw[zir h]at Z;rw[show(segV m k l).getD n default=s by rw[j8,hs];rfl,Z]at V;have hl:=(j1.1 hs).1
 have U:cuO m k l=none:=by
  unfold cuO;have:=zlT V ((segV m k l).length-(n+1))
  rwa[show n+1+((segV m k l).length-(n+1))=(segV m k l).length by omega]at this
 have:cuE m k l=14:=by unfold cuE;rw[j3 h0,U];rfl
 refine⟨this,?_⟩;unfold cuV;rw[this];rfl
def zpX(h0:segE m k l=0)(h:muI m k l n=true)(V:n=(segV m k l).length):cuE m k l=0/\muF m k l n=cuV m k l:=by
 have Z:cuO m k l=some (muF m k l n):=by unfold cuO;rw[←V];exact zgr h
 have:cuE m k l=0:=by unfold cuE;rw[j3 h0,Z];rfl
 refine⟨this,?_⟩;unfold cuV;rw[this,Z];rfl
end
def znP(u:Tm)(k:Int)(S:List Sgm)(l:List Ite)(M:List Int)(n:Nat):(alK u k S l M n).length<=5:=by
 unfold alK alQ alR;simp only[jE];have h:∀(p:Prop)[Decidable p](x:Int),(if p then[x]else[]).length<=1:=λp _ x=>by split<;>simp
 have a1:=h;refine jQ (xW (xW (xW (xW (h _ _) (h _ _)) (h _ _)) (h _ _)) (h _ _)) (by omega)
def wdF(L A:List Int)(i:Nat):Int:=((L.drop (L.length-i)).find? λc=>decide (c∈A)).getD (-1)
def zBm(L A:List Int):wdF L A 0=-1:=by unfold wdF;rw[vS,wQ];rfl
def zBn{L A:List Int}{i:Nat}{x:Int}(hi:i<L.length)(h:L[L.length-1-i]? =some x):wdF L A (i+1)=if x∈A then x else wdF L A i:=by
 have Z:=j1.1 h
 have e:L.drop (L.length-(i+1))=x::L.drop (L.length-i):=by
  rw[show L.length-(i+1)=L.length-1-i by omega,jG Z.1,Z.2,show L.length-1-i+1=L.length-i by omega]
 unfold wdF;rw[e];by_cases hx:x∈A
 ·rw[j3 hx,List.find?_cons_of_pos (by simpa using hx)];rfl
 ·rw[j4 hx,List.find?_cons_of_neg (by simpa using hx)]
def zvP{s:Sgm}{A:List Int}{i:Nat}(hi:i=(wnL s).length):wdF (wnL s) A i=(chF s A).getD (-1):=by
 unfold wdF chF;rw[hi,Nat.sub_self];rfl
def zvQ(s:Sgm):(wnL s).length<=2:=by
 unfold wnL;split<;>try split
 all_goals(try split)
 all_goals(try split)
 all_goals simp
end
section
def lvN(m:Mn)(L:List Int)(l:List Ite):Nat->List Int×List Ite
 |0=>([],l)
 |n+1=>((lvN m L l n).1++cuV m (L.getD n 0) (lvN m L l n).2,apV m (L.getD n 0) (lvN m L l n).2 (cuV m (L.getD n 0) (lvN m L l n).2))
structure LvJ(m:Mn)(L:List Int)(l:List Ite)(n:Nat):Prop where
 le:n<=L.length
 go:lvF m L l []=lvF m (L.drop n) (lvN m L l n).2 (lvN m L l n).1
 len:(lvN m L l n).2.length=l.length
 cho:(lvN m L l n).1.length<=n*(2*l.length+2)
def zuz(m:Mn)(L:List Int)(l:List Ite):LvJ m L l 0:=⟨by omega,rfl,rfl,by simp[lvN]⟩
def zhW{m:Mn}{k:Int}{l:List Ite}:(cuV m k l).length<=2*l.length+2:=by
 by_cases h:cuE m k l=0
 ·obtain⟨h0,Z⟩:=zuw h;unfold cuO at Z;have:=(ziq Z).1;have:=zaJ m k l;omega
 ·unfold cuV;rw[j4 h];simp
def zkD{m:Mn}{k:Int}{l:List Ite}{M:List Int}(h:apE m k l M=0):(apV m k l M).length=l.length:=by
 unfold apV;rw[j3 h];exact zb2 _ _ _ _ _
def zkE{m:Mn}{L:List Int}{l:List Ite}{n:Nat}{k:Int}(Z:L[n]? =some k):(lvN m L l n).1++cuV m k (lvN m L l n).2=(lvN m L l (n+1)).1/\apV m k (lvN m L l n).2 (cuV m k (lvN m L l n).2)=(lvN m L l (n+1)).2:=by
 have e:L.getD n 0=k:=by rw[j8,Z];rfl
 show _=((lvN m L l n).1++cuV m (L.getD n 0) (lvN m L l n).2)/\_=apV m (L.getD n 0) (lvN m L l n).2 (cuV m (L.getD n 0) (lvN m L l n).2);rw[e];exact⟨rfl,rfl⟩
def LvJ.s{m:Mn}{L:List Int}{l:List Ite}{n:Nat}{k:Int}(h:LvJ m L l n)(Z:L[n]? =some k)(he:cuE m k (lvN m L l n).2=0):LvJ m L l (n+1):=by
 obtain⟨e1,e2⟩:=zkE (m:=m) (l:=l) Z;have V:=(j1.1 Z).1;refine⟨by omega,?_,?_,?_⟩
 ·rw[h.go,zlV Z,j3 he,e1,e2]
 ·rw[←e2,zkD (zlU he),h.len]
 ·rw[←e1,jE,Nat.add_mul,Nat.one_mul];have:=h.cho;have:=zhW (m:=m) (k:=k) (l:=(lvN m L l n).2);rw[h.len]at this;omega
section
variable{m:Mn}{l:List Ite}{n:Nat}{k:Int}
def zxM(h:¬ckM m=0):leE m l=ckM m/\leC m l=[]/\leI m l=[]:=by
 have:leE m l=ckM m:=by unfold leE;rw[j4 h]
 refine⟨this,?_,?_⟩
 ·unfold leC;rw[this,j4 h]
 ·unfold leI;rw[this,j4 h]
def zxN(h:ckM m=0)(Z:¬ckIE l=0):leE m l=ckIE l/\leC m l=[]/\leI m l=[]:=by
 have:leE m l=ckIE l:=by unfold leE;rw[j3 h,j4 Z]
 refine⟨this,?_,?_⟩
 ·unfold leC;rw[this,j4 Z]
 ·unfold leI;rw[this,j4 Z]
def zxO(h:ckM m=0)(Z:ckIE l=0)(hJ:LvJ m (perfL m) l n)(V:(perfL m)[n]? =some k)(he:¬cuE m k (lvN m (perfL m) l n).2=0):leE m l=cuE m k (lvN m (perfL m) l n).2/\leC m l=[]/\leI m l=[]:=by
 have:leE m l=cuE m k (lvN m (perfL m) l n).2:=by unfold leE;rw[j3 h,j3 Z,hJ.go,zlV V,j4 he]
 refine⟨this,?_,?_⟩
 ·unfold leC;rw[this,j4 he]
 ·unfold leI;rw[this,j4 he]
def zxP(h:ckM m=0)(Z:ckIE l=0)(hJ:LvJ m (perfL m) l n)(V:n=(perfL m).length):leE m l=0/\(lvN m (perfL m) l n).1=leC m l/\(lvN m (perfL m) l n).2=leI m l:=by
 have e:lvF m (perfL m) l []=((lvN m (perfL m) l n).1,(lvN m (perfL m) l n).2,0):=by rw[hJ.go,V,wQ];rfl
 have:leE m l=0:=by unfold leE;rw[j3 h,j3 Z,e]
 refine⟨this,?_,?_⟩
 ·unfold leC;rw[this,j3 rfl,e]
 ·unfold leI;rw[this,j3 rfl,e]
def zkF(m:Mn):(perfL m).length<=4:=by
 unfold perfL;exact wS _ _
def zpY(Z:(perfL m)[n]? =some k):1<=k/\k<=4:=by
 have h:=j6 Z;rw[zg4]at h;exact⟨h.1,h.2.1⟩
end
end
section
section
variable{m:Mn}{l:List Sg}
end
end
section
end
section
end
section
inductive ChG:List (List Int)->List Int->Prop
 |nil:ChG [] []
 |snoc{x:List Int}{R:List (List Int)}{r:List Int}{v:Int}(hv:v∈x)(h:ChG R r):ChG (x::R) (r++[v])
def zuA{L:List (List Int)}{c:List Int}(hl:L.length=c.length)(h:∀(i:Nat)x v,L[i]? =some x->c[i]? =some v->v∈x):∀k,k<=L.length->ChG (L.take k).reverse (c.take k)
 |0,_=>by simpa using ChG.nil
 |k+1,Z=>by
  have hx:L[k]? =some L[k]:=lgg (by omega);have hv:c[k]? =some c[k]:=lgg (by omega);rw[jF,jF,hx,hv];simp only[Option.toList_some,List.reverse_append,List.reverse_cons,List.reverse_nil,xP,uB];exact .snoc (h k _ _ hx hv) (zuA hl h k (by omega))
theorem zvR{R:List (List Int)}{r:List Int}(Z:ChG R r):r.length=R.length/\∀(i:Nat)x v,R.reverse[i]? =some x->r[i]? =some v->v∈x:=by
 induction Z<;>grind
def zxQ{L:List (List Int)}{r:List Int}(Z:ChG L.reverse r):L.length=r.length/\chOk r L:=by
 grind[zvR,List.reverse_reverse,zen]
def zpZ(x:List Int)(c:Int):Prop:=(∃a,x=[a]/\c=a)\/(∃a b,x=[a,b]/\a<b/\(c=a\/c=b))
theorem zlW{m:Mn}{l:List Sg}{i:Int}{p:Sg}(V:ckM m=0)(Z:1<=p.Value):zpZ (mngR m p) (za9 m l i p):=by
 have U:=zmD (m:=m) Z;unfold za9 mngR
 grind[ownV,zpZ]
def zvS{m:Mn}{l:List Sg}(T:ckM m=0)(Z:ckD m l=0){k:Nat}{x:List Int}{c:Int}(hx:(mnsD m l)[k]? =some x)(U:(zl m l)[k]? =some c):zpZ x c:=by
 rw[mnsD,jO]at hx;rw[zl,jO]at U;cases V:(yV l l.length)[k]? with
 |none=>simp[V]at hx
 |some i=>
  simp[V]at hx U;obtain⟨j,s,p,Q,N,J,I,H⟩:=zkp Z (j6 V)
  grind[zko,mnAt,zdl,mngs,zlA,zlW]
def zis(m:Mn)(l:List Sg):(zl m l).length=(mnsD m l).length:=by
 unfold zl mnsD;simp
def zsf{m:Mn}{l:List Sg}(V:ckM m=0)(U:ckD m l=0):ChG (mnsD m l).reverse (zl m l):=by
 have Z:=zis m l
 have h:=zuA (L:=mnsD m l) (c:=zl m l) Z.symm (λi x v hx hv=>by
  rcases zvS V U hx hv with⟨a,rfl,rfl⟩|⟨a,b,rfl,T,rfl|rfl⟩<;>simp) (mnsD m l).length (jD _)
 grind
end
section
end
end Go.Rse
