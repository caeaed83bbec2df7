/-
  Walks.
-/
import Derived.Test.YtpapdhoblekoeaaGreatDoorZJBar2
set_option linter.all false
set_option maxHeartbeats 8000000
namespace Go.Rse
open Go Go.Proofs Go.Proofs.Tryz
attribute [local irreducible] Pur yy yu Ex X Fn Imp LeV LeB FnO It yA
section
variable{L:List Par}{j:Nat}{k:Int}{m:Mn}{p:Par}
attribute [local irreducible] FnW FnOW FnP FnD
def apJ(m:Mn)(k:Int)(L:List Par)(j:Nat):List Par:=(L.take j).map (ap1 m k)++L.drop j
def zBj(m:Mn)(k:Int)(L:List Par):L=apJ m k L 0:=by unfold apJ;simp
def zop(m:Mn)(k:Int)(L:List Par)(j:Nat):(apJ m k L j).length=L.length:=by unfold apJ;rw[jJ,jD,jO,vC];omega
def zyE(h:L[j]? =some p):(apJ m k L j)[j]? =some p:=by
 have Q:=(j5.1 h).1;unfold apJ;rw[wC aj];have:j-((L.take j).map (ap1 m k)).length=0:=aj
 rw[this,wI];simpa using h
def ztH(h:L[j]? =some p):(apJ m k L j).set j (ap1 m k p)=apJ m k L (j+1):=by
 have Q:=j5.1 h;have H:=Q.1;unfold apJ;rw[vQ _ _ aj];have:j-((L.take j).map (ap1 m k)).length=0:=aj
 rw[this,jQ Q.1,List.set_cons_zero,jK,h];simp
def ztI(m:Mn)(k:Int)(L:List Par):apJ m k L L.length=L.map (ap1 m k):=by unfold apJ;simp
attribute [local irreducible] alV alE segE segV brF bqX cgS cgN br1 apV apE apJ alvE alvV alvR
def zg(l:List Int)(hl:l.length<=4000000000):Fn prog 223 [yj l] (yj l):=by
 refine bB func223 ntmps223 (λg w d=>?_);apply yc;refine yk ?_;apply ye;apply yc;refine ya ?_;refine Ex.eqNil rfl sl22 rfl (λb G=>?_);refine gd ?_ ?_<;>intro Q
 ·have H:=G Q;subst H;subst Q;apply yc;refine yk ?_;refine bC ?_;refine yi (yh (ts:=[(2,yj [])]) (hs:=[])) ?_;refine gq ?_;all_goals rfl
 refine gq ?_;refine yH intE [] ?_;refine ya ?_;refine bF ?_;refine yk ?_;refine bC ?_;refine yi (kY (k:=5) rfl) ?_;refine gq ?_;all_goals rfl
def zd9(l:List Ite)(hl:l.length<=100000):Fn prog 244 [itsA l] (tmsA (l.map (·.Dur))):=by
 have H:[]=(l.take 0).map (λx=>x.Dur):=ah
 refine bB func244 ntmps244 (λg w d=>?_);apply yc;refine ya ?_;apply yp;refine yk ?_;iterate 2 apply ye
 refine yl (yz tmE 35 2 3 30 rfl rfl) ?_;apply yd;refine yo ?_;apply kX;refine y9 [3,6,7] (λn zz=>(8,iv (n:Int))::zz) [] (λn zz=>(30,.row tmE ((l.take n).map (λx=>x.Dur)) 35 2)::zz) l.length (λn hk=>?_);refine gd ?_ ?_<;>intro G
 ·have Q:=@getX _ l n aa;obtain⟨x,hx,xT⟩:=Q;have x2:=zrk hx;have x1:((l.take n).map (λx=>x.Dur)).length<=100000:=by rw[jD,jO];omega
  refine gq ?_;refine yH tmE [x.Dur] ?_;refine gq ?_;refine yr (n+1) (hI:=kW)
 ·obtain rfl:n=l.length:=aa
  have hV:(l.take l.length).map (λx=>x.Dur)=l.map (·.Dur):=by rw[jR]
  apply bH;apply yc;refine yC ?_;refine bC ?_;refine yi (kY (k:=30) rfl) ?_;refine gq ?_;all_goals(exact jA (λz=>tmsA z) hV)
def zfS(m:Mn)(k:Int)(l:List Par)(a c:Nat)(h0:-9223372036854775808<=k)(h1:k<=9223372036854775807)(ha:a<=1000)(G:c<=1000000)(hl:l.length<=4096)(hB:∀p∈l,PB a 0 c p):Fn prog 243 [mnA m,iv k,zdV l] (.tup [zdV (alvV m k l),iv (alvE m k l)]):=by
 have v5:=zok m k (B:=a) l (λp hp=>(hB p hp).i);have x1:=zkY m k l;have v4:cgS m k l=brN m k l 0:=rfl;refine bB func243 ntmps243 (λg w d=>?_);refine gq ?_;refine y0 [(30,30)] (zft m k l a 0 c h0 h1 aa aa hB) ?_;iterate 2 refine ya ?_
 refine yo ?_;apply ye;apply yc;refine yC ?_;apply kX;refine zag (ι:=Nat) [2,1,3,20] (λ(n:Nat)zz=>(21,iv (n:Int))::zz) [3] (λ(n:Nat)zz=>(30,.row parE (brN m k l n) 417 3)::zz) (λ(n:Nat)=>BrJ m k l n/\(brN m k l n).length<=4096) (λ(n:Nat)=>(cgN m k l).toNat-n) 0 (λn hk=>?_) (hJ:=by exact⟨BrJ.z m k l,jV x1 hl⟩);obtain⟨hJ,v3⟩:=hk;have v2:=hJ.le;have xT:=zqA (m:=m) (k:=k) hB n;refine gd ?_ ?_<;>intro v1
 ·have hn:n<(cgN m k l).toNat:=aa
  have v0:=zkZ m k (brN m k l n);have k9:brF m k (brN m k l n)=brN m k l (n+1):=rfl;apply yf;apply ye;apply kX;apply ye;refine yl (kY (k:=30) rfl) ?_;refine gq ?_;refine zf (zfu m k (brN m k l n)) ?_;refine y0 [(39,31)] (zbv m k (brN m k l n) a n c h0 h1 aa aa aa xT) ?_;refine gd ?_ ?_<;>intro k8
  ·have x0:=hJ.bad hn aa;obtain⟨hE,hV⟩:=x0;apply yc;refine yC ?_;refine bC ?_;refine yi (yh (ts:=[(6,zdV []),(7,iv 15)]) (hs:=[])) ?_;refine yn ?_ ?_;all_goals(first|exact zE hV|exact zE hE|exact jA (λz=>zdV z) hW|exact jA (λz=>zdV z) hV.symm|exact jA (λz=>AV.int .i64 z) hE.symm)
  have H:(brF m k (brN m k l n)).length<=4096:=aa
  apply yf;refine yl (st':=⟨[(2,.own 31),(1,iv k),(3,.ptr 3 0 0 0),(20,iv (cgN m k l)),(21,iv (n:Int))],[(3,.box (mnE m) 67),(31,.row parE (brN m k l (n+1)) 417 3)]⟩) kW ?_;refine yl (bY 31 30 rfl rfl) ?_;refine gq ?_;refine yr (n+1) (hJ:=by exact⟨hJ.s hn H,H⟩) (hI:=kW)
 ·have w2:=hJ.fin aa;obtain⟨hE,hV⟩:=w2;apply bH;apply ye;apply yc;refine yo ?_;apply kX;have v8:=zBj m k (brN m k l n);refine y9 [1,2,3,32,33] (λq zz=>(34,iv (q:Int))::zz) [3] (λq zz=>(30,.row parE (apJ m k (brN m k l n) q) 417 3)::zz) ((brN m k l n).length) (λq hk=>?_);refine gd ?_ ?_<;>intro k7
  ·obtain⟨p,hp⟩:∃p,(brN m k l n)[q]? =some p:=⟨_,lgg aa⟩;have Q:=xT p (j6 hp);have v9:=zyE (m:=m) (k:=k) hp;have x2:(apJ m k (brN m k l n) q)[(q:Int).toNat]? =some p:=ao v9
   have k6:=zop m k (brN m k l n) q;have k5:(apJ m k (brN m k l n) q).set (q:Int).toNat (ap1 m k p)=apJ m k (brN m k l n) (q+1):=by rw[jN];exact ztH hp
   apply yf;apply ye;apply kX;apply yc;(iterate 2 refine ya ?_);refine yO (zQ rfl rfl x2 rfl rfl zpZ) rfl ?_;refine gc (zff m k p.items p.now h0 h1 (by have:=Q.i;omega) (by have:=Q.n;omega)) ?_;refine X.drawQ [⟨0,49,.own 30,[]⟩,⟨1,50,iv (q:Int),[]⟩,⟨2,51,itsA (apV m k p.items p.now),[]⟩,⟨3,52,.ptr 10 0 0 (0+2),[]⟩,⟨4,53,yj p.made,[3]⟩,⟨6,55,.ptr 10 0 0 (0+1),[]⟩,⟨7,56,yj p.now,[6]⟩,⟨10,59,.ptr 30 3 (q:Int).toNat 0,[9,8,7,6,5,4,3,2,1,0]⟩] [(5,[3,4]),(8,[3,6,4,7,5]),(9,[3,6,4,7,5,8,2]),(11,[7,6,5,4,3,2,1,0,8,9,10])] (λj=>match j with|0=>⟨[(1,iv k),(2,.own 30),(3,.ptr 3 0 0 0),(32,.own 30),(33,iv ((brN m k l n).length:Int)),(34,iv (q:Int)),(9,iv (q:Int)),(10,.ptr 10 0 0 0),(11,itsA (apV m k p.items p.now))],[(3,.box (mnE m) 67),(30,.row parE (apJ m k (brN m k l n) q) 417 3),(10,.box (parE p) 417)]⟩|1=>⟨[(1,iv k),(2,.own 30),(3,.ptr 3 0 0 0),(32,.own 30),(33,iv ((brN m k l n).length:Int)),(34,iv (q:Int)),(9,iv (q:Int)),(10,.ptr 10 0 0 0),(11,itsA (apV m k p.items p.now)),(54,.own 54)],[(3,.box (mnE m) 67),(30,.row parE (apJ m k (brN m k l n) q) 417 3),(10,.box (parE p) 417),(54,.row intE p.made 3 1)]⟩|2=>⟨[(1,iv k),(2,.own 30),(3,.ptr 3 0 0 0),(32,.own 30),(33,iv ((brN m k l n).length:Int)),(34,iv (q:Int)),(9,iv (q:Int)),(10,.ptr 10 0 0 0),(11,itsA (apV m k p.items p.now)),(57,yj (p.made++p.now))],[(3,.box (mnE m) 67),(30,.row parE (apJ m k (brN m k l n) q) 417 3),(10,.box (parE p) 417)]⟩|3=>⟨[(1,iv k),(2,.own 30),(3,.ptr 3 0 0 0),(32,.own 30),(33,iv ((brN m k l n).length:Int)),(34,iv (q:Int)),(9,iv (q:Int)),(10,.ptr 10 0 0 0),(11,itsA (apV m k p.items p.now)),(58,.agg [itsA (apV m k p.items p.now),yj [],yj (p.made++p.now)])],[(3,.box (mnE m) 67),(30,.row parE (apJ m k (brN m k l n) q) 417 3),(10,.box (parE p) 417)]⟩|_=>⟨[(1,iv k),(2,.own 30),(3,.ptr 3 0 0 0),(32,.own 30),(33,iv ((brN m k l n).length:Int)),(34,iv (q:Int)),(9,iv (q:Int)),(10,.ptr 10 0 0 0),(11,itsA (apV m k p.items p.now))],[(3,.box (mnE m) 67),(30,.row parE ((apJ m k (brN m k l n) q).set (q:Int).toNat (ap1 m k p)) 417 3),(10,.box (parE p) 417)]⟩) mo ae (zP (yh)) (λj hj=>?_) (λj c G β hβ=>?_) ?_
   ·rcases j with _|_|_|_|_|j
    ·exact yE
    ·exact yE
    ·exact yE
    ·exact yE
    ·exact yE
    ·exact absurd (show j+5<=4 from hj) aa
   ·rcases j with _|_|_|_|j
    ·obtain rfl:(5,[3,4])=c:=by injection G
     refine zaF rfl (zcq (st0:=⟨[(49,.ifb (β 0) (.own 30)),(50,.ifb (β 1) (iv (q:Int))),(51,.ifb (β 2) (itsA (apV m k p.items p.now))),(52,.ptr 10 0 0 (0+2)),(53,yj p.made),(55,.ifb (β 6) (.ptr 10 0 0 (0+1))),(56,.ifb (β 7) (yj p.now)),(59,.ifb (β 10) (.ptr 30 3 (q:Int).toNat 0)),(1,iv k),(2,.own 30),(3,.ptr 3 0 0 0),(32,.own 30),(33,iv ((brN m k l n).length:Int)),(34,iv (q:Int)),(9,iv (q:Int)),(10,.ptr 10 0 0 0),(11,itsA (apV m k p.items p.now))],[(3,.box (mnE m) 67),(30,.row parE (apJ m k (brN m k l n) q) 417 3),(10,.box (parE p) 417)]⟩) (zfN) ?_);refine zJ (zvb [(5,54)] (zW p.made (by have:=Q.d;omega))) (zfN)
    ·obtain rfl:(8,[3,6,4,7,5])=c:=by injection G
     refine zaF rfl (zcq (st0:=⟨[(49,.ifb (β 0) (.own 30)),(50,.ifb (β 1) (iv (q:Int))),(51,.ifb (β 2) (itsA (apV m k p.items p.now))),(52,.ptr 10 0 0 (0+2)),(53,yj p.made),(55,.ptr 10 0 0 (0+1)),(56,yj p.now),(59,.ifb (β 10) (.ptr 30 3 (q:Int).toNat 0)),(1,iv k),(2,.own 30),(3,.ptr 3 0 0 0),(32,.own 30),(33,iv ((brN m k l n).length:Int)),(34,iv (q:Int)),(9,iv (q:Int)),(10,.ptr 10 0 0 0),(11,itsA (apV m k p.items p.now)),(54,.own 54)],[(3,.box (mnE m) 67),(30,.row parE (apJ m k (brN m k l n) q) 417 3),(10,.box (parE p) 417),(54,.row intE p.made 3 1)]⟩) (zfN) ?_);refine zJ (zJ (zaw (l:=p.made) (l2:=p.now) rfl rfl rfl sl22 ti3 ac ac (λ_=>rfl) (λ_=>rfl) (by have:=Q.d;have:=Q.n;omega) rfl) (kY (k:=54) rfl)) (zfN)
    ·obtain rfl:(9,[3,6,4,7,5,8,2])=c:=by injection G
     refine zaF rfl (zcq (st0:=⟨[(49,.ifb (β 0) (.own 30)),(50,.ifb (β 1) (iv (q:Int))),(51,itsA (apV m k p.items p.now)),(52,.ptr 10 0 0 (0+2)),(53,yj p.made),(55,.ptr 10 0 0 (0+1)),(56,yj p.now),(59,.ifb (β 10) (.ptr 30 3 (q:Int).toNat 0)),(1,iv k),(2,.own 30),(3,.ptr 3 0 0 0),(32,.own 30),(33,iv ((brN m k l n).length:Int)),(34,iv (q:Int)),(9,iv (q:Int)),(10,.ptr 10 0 0 0),(11,itsA (apV m k p.items p.now)),(57,yj (p.made++p.now))],[(3,.box (mnE m) 67),(30,.row parE (apJ m k (brN m k l n) q) 417 3),(10,.box (parE p) 417)]⟩) (zfN) ?_);refine zJ (yW (bA yU) rfl rfl) (c7 (by(repeat'(first|exact True.intro|(refine And.intro ⟨_,rfl,?_⟩ ?_;(first|exact LeV.agg (.cons (bM _) (.cons (bO _) (.cons (bM _) .nil)))|exact bM _|exact zeC (hβ _ ah)|exact zcp _ _|exact bN _))))) (by(repeat'(first|exact True.intro|(refine And.intro ⟨_,rfl,?_⟩ ?_;(first|exact LeV.agg (.cons (bM _) (.cons (bO _) (.cons (bM _) .nil)))|exact bM _|exact zeC (hβ _ ah)|exact zcp _ _|exact bN _))))))
    ·obtain rfl:(11,[7,6,5,4,3,2,1,0,8,9,10])=c:=by injection G
     refine zaF rfl (zcq (st0:=⟨[(49,.own 30),(50,iv (q:Int)),(51,itsA (apV m k p.items p.now)),(52,.ptr 10 0 0 (0+2)),(53,yj p.made),(55,.ptr 10 0 0 (0+1)),(56,yj p.now),(59,.ptr 30 3 (q:Int).toNat 0),(1,iv k),(2,.own 30),(3,.ptr 3 0 0 0),(32,.own 30),(33,iv ((brN m k l n).length:Int)),(34,iv (q:Int)),(9,iv (q:Int)),(10,.ptr 10 0 0 0),(11,itsA (apV m k p.items p.now)),(58,.agg [itsA (apV m k p.items p.now),yj [],yj (p.made++p.now)])],[(3,.box (mnE m) 67),(30,.row parE (apJ m k (brN m k l n) q) 417 3),(10,.box (parE p) 417)]⟩) (zfN) ?_);refine zJ (zaU (ap1 m k p) rfl rfl (λ_=>rfl) ac (by rw[zop];omega) rfl rfl rfl rfl rfl zpZ) (zfN)
    ·exact absurd G ah
   refine gq ?_;refine yr (q+1) (hI:=kW)
  ·obtain rfl:q=(brN m k l n).length:=aa
   have hW:apJ m k (brN m k l n) (brN m k l n).length=alvV m k l:=(ztI m k _).trans hV;apply bH;apply yc;refine yo ?_;refine bC ?_;refine yi (kY (k:=30) rfl) ?_;refine yn ?_ ?_;all_goals(first|exact zE hV|exact zE hE|exact jA (λz=>zdV z) hW|exact jA (λz=>zdV z) hV.symm|exact jA (λz=>AV.int .i64 z) hE.symm)
end
section
variable{L:List Par}{j:Nat}{l:List Sg}{m:Mn}{n:Int}{p:Par}
attribute [local irreducible] FnW FnOW FnP FnD
abbrev zcr(l:List Rdg):AV:=.sl rdgE l
def ztJ(m:Mn)(l:List Sg)(n:Int):(cmI m l n).length<=l.length:=zmw _ _ _
def zwP(m:Mn)(hl:l.length<=1000)(n:Int):∀p∈[(⟨cmI m l n,[],[]⟩:Par)],PB 1000 0 0 p:=by
 intro p Q;simp at Q;subst Q;exact⟨by have:=ztJ m l n;show(cmI m l n).length<=1000;omega,jG _,jG _⟩
def zyF(h:cmL m (perfL m) [⟨cmI m l n,[],[]⟩]=([],15)):cmE m l n=15/\cmV m l n=[]:=by
 have:cmE m l n=15:=by unfold cmE cmR;rw[h]
 refine⟨this,?_⟩;unfold cmV;rw[this];rfl
def zyG(h:cmL m (perfL m) [⟨cmI m l n,[],[]⟩]=(L,0)):cmE m l n=0/\L.map (rdOf (ofL m l n) [])=cmV m l n:=by
 have:cmE m l n=0:=by unfold cmE cmR;rw[h]
 refine⟨this,?_⟩;unfold cmV cmR;rw[this,j7 rfl,h]
def ztK{d mi:List Int}(h:L[j]? =some p):(L.take j).map (rdOf d mi)++[rdOf d mi p]=(L.take (j+1)).map (rdOf d mi):=by
 rw[jK,h];simp
def zyH(m:Mn)(hl:l.length<=1000)(n:Int):(cmV m l n).length<=4096:=by
 unfold cmV cmR;split
 ·rename_i h;rw[jD]
  have key:∀(L:List Int)(c:Nat)(z:List Par),z.length<=4096->(∀p∈z,PB 1000 0 c p)->(cmL m L z).1.length<=4096:=by
   intro L
   induction L with
   |nil=>intro c z h1 _;exact h1
   |cons k r ih=>
    intro c z h1 Q;simp only[cmL];split
    ·have:=zqD (m:=m) (k:=k) h1 Q;exact ih _ _ this.1 this.2
    ·simp
  exact key _ 0 _ ah (zwP m hl n)
 ·simp
attribute [local irreducible] alV alE segE segV alvE alvV cmI cmL cmN cmV cmE ofL perfL cntE cntV aqN aqX aqE aqV
set_option maxRecDepth 9999 in
def zhK(m:Mn)(l:List Sg)(n:Int)(hl:l.length<=1000)(hn:NC l)(hM:ckM m=0)(he:ofE m l n=0)(hi:mkE m l (ofL m l n)=0):Fn prog 205 [mnA m,sgsA l,iv n] (.tup [zcr (cmV m l n),iv (cmE m l n)]):=by
 have x1:=zp9 m l n hl hn he;have k9:(ofL m l n).length<=1000:=by rw[zy7 he];have:=zoK m l;omega
 have x0:Fn prog 107 [mnA m,sgsA l,yj (ofL m l n),yj []] (.tup [itsA (cmI m l n),iv 0]):=by
  have h:=zfW m l (ofL m l n) hl hn;rw[hi]at h;unfold cmI;exact h
 have hL:=zc6 m;rw[hM,j7 rfl]at hL;have k8:=zlu m;have k7:[(⟨cmI m l n,[],[]⟩:Par)]=cmN m (perfL m) [(⟨cmI m l n,[],[]⟩:Par)] 0:=by unfold cmN;rfl
 refine bB func205 ntmps205 (λg w d=>?_);refine gc x1 ?_;refine gd ?_ ?_<;>intro w2
 ·exact absurd rfl w2
 refine gc x0 ?_;refine gd ?_ ?_<;>intro v9
 ·exact absurd rfl v9
 refine gq ?_;refine zf hL ?_;iterate 5 refine ya ?_
 apply yp;iterate 2 refine ya ?_
 refine yY (st':=⟨[(3,.ptr 3 0 0 0),(8,yj (ofL m l n)),(9,yj []),(12,yj (perfL m)),(48,parA ⟨cmI m l n,[],[]⟩)],[(3,.box (mnE m) 67)]⟩) (c7 ⟨⟨_,rfl,bM _⟩,⟨_,rfl,bM _⟩,⟨_,rfl,bM _⟩,⟨_,rfl,bM _⟩,⟨_,rfl,LeV.agg (.cons (bM _) (.cons (bO _) (.cons (bO _) .nil)))⟩,True.intro⟩ ⟨⟨_,rfl,bN _⟩,True.intro⟩) ?_;refine yH parE [(⟨cmI m l n,[],[]⟩:Par)] ?_;refine yk ?_;iterate 2 apply ye
 refine yl (st':=⟨[(3,.ptr 3 0 0 0),(8,yj (ofL m l n)),(9,yj []),(12,yj (perfL m)),(14,zdV [(⟨cmI m l n,[],[]⟩:Par)])],[(3,.box (mnE m) 67)]⟩) ((kY (k:=49) rfl).trans yh) ?_;apply yd;refine yo ?_;apply kX;refine zag (ι:=Nat) [3,8,9,50,51] (λ(k:Nat)zz=>(14,zdV (cmN m (perfL m) [(⟨cmI m l n,[],[]⟩:Par)] k))::(52,iv (k:Int))::zz) [3] (λ(k:Nat)zz=>zz) (λ(k:Nat)=>CmJ m (perfL m) [(⟨cmI m l n,[],[]⟩:Par)] k) (λ(k:Nat)=>(perfL m).length-k) 0 (λk hk=>?_) (hJ:=by exact CmJ.z m (perfL m) _);have hJ:=hk;have k6:=hJ.le;clear hk;have v8:=zqE (m:=m) (L:=perfL m) (l:=[(⟨cmI m l n,[],[]⟩:Par)]) ah (zwP m hl n) k;obtain⟨v5,xT⟩:=v8;refine gd ?_ ?_<;>intro k5
 ·have G:=@getX _ (perfL m) k aa;obtain⟨kk,hk,k4⟩:=G;have k3:=zry hk;have k2:=zwL (m:=m) (l:=[(⟨cmI m l n,[],[]⟩:Par)]) hk;refine gc (zfS m kk (cmN m (perfL m) [(⟨cmI m l n,[],[]⟩:Par)] k) 1000 (k*(2*1000+2)) aa aa aa aa v5 xT) ?_;refine gd ?_ ?_<;>intro v4
  ·have v3:=hJ.bad hk v4;obtain⟨x2,v2⟩:=v3;have v1:=zyF v2;obtain⟨hE,hV⟩:=v1;apply yc;refine yo ?_;refine bC ?_;refine yi (yh (ts:=[(6,zcr []),(7,iv (alvE m kk (cmN m (perfL m) [(⟨cmI m l n,[],[]⟩:Par)] k)))]) (hs:=[])) ?_;refine yn ?_ ?_;all_goals(first|exact zE hV|(rw[hE,x2];done)|exact jA (λz=>zcr z) hW|exact jA (λz=>AV.int .i64 z) hE.symm)
  have h0:alvE m kk (cmN m (perfL m) [(⟨cmI m l n,[],[]⟩:Par)] k)=0:=aa
  refine gq ?_;refine yr (k+1) (hJ:=by exact hJ.s hk h0) (hI:=kW)
 ·obtain rfl:k=(perfL m).length:=aa
  have v0:=zyG (hJ.fin rfl);obtain⟨hE,hV⟩:=v0;apply bH;apply yc;refine yk ?_;iterate 2 apply ye
  refine yl (yz rdgE 50 4 17 40 rfl rfl) ?_;apply yd;refine yo ?_;apply kX;have j4:[]=((cmN m (perfL m) [(⟨cmI m l n,[],[]⟩:Par)] (perfL m).length).take 0).map (rdOf (ofL m l n) []):=ah
  refine y9 [8,9,17,67,68] (λq zz=>(69,iv (q:Int))::zz) [] (λq zz=>(40,.row rdgE (((cmN m (perfL m) [(⟨cmI m l n,[],[]⟩:Par)] (perfL m).length).take q).map (rdOf (ofL m l n) [])) 50 4)::zz) ((cmN m (perfL m) [(⟨cmI m l n,[],[]⟩:Par)] (perfL m).length).length) (λq hk=>?_);refine gd ?_ ?_<;>intro j3
  ·have G:=@getX _ (cmN m (perfL m) [(⟨cmI m l n,[],[]⟩:Par)] (perfL m).length) q aa;obtain⟨p,hp,j2⟩:=G;have Q:=xT p (j6 hp);have j1:=ztK (d:=(ofL m l n)) (mi:=[]) hp;have j0:(((cmN m (perfL m) [(⟨cmI m l n,[],[]⟩:Par)] (perfL m).length).take q).map (rdOf (ofL m l n) [])).length<=5000:=by rw[jD,jO];omega
   apply yf;apply ye;apply kX;apply yc;(iterate 2 refine ya ?_);refine yP ?_;refine bF ?_;apply bD;refine zY [⟨1,74,yj (ofL m l n),[]⟩,⟨2,75,yj (ofL m l n),[1]⟩,⟨3,76,yj [],[]⟩,⟨4,77,yj [],[1,2,3]⟩,⟨5,78,.ptr 19 0 0 (0+2),[]⟩,⟨6,79,yj p.made,[5]⟩,⟨7,80,yj p.made,[1,2,3,5,4,6]⟩,⟨8,81,.ptr 19 0 0 (0+0),[]⟩,⟨9,82,itsA p.items,[8]⟩,⟨10,83,tmsA (p.items.map (·.Dur)),[1,2,3,5,4,6,8,7,9]⟩,⟨11,84,rdgA (rdOf (ofL m l n) [] p),[8,5,9,6,3,1,10,7,4,2]⟩,⟨12,85,zcr [(rdOf (ofL m l n) [] p)],[8,5,9,6,3,1,10,7,4,2,11]⟩] [(0,[]),(13,[5,3,1,6,8,4,2,7,9,11,10,12,0]),(14,[12,11,10,9,8,7,6,5,4,3,2,1,0,13])] (let T:=[(8,yj (ofL m l n)),(9,yj []),(67,zdV (cmN m (perfL m) [(⟨cmI m l n,[],[]⟩:Par)] (perfL m).length)),(68,iv ((cmN m (perfL m) [(⟨cmI m l n,[],[]⟩:Par)] (perfL m).length).length:Int)),(69,iv (q:Int)),(19,.ptr 19 0 0 0)];let H:=[(19,.box (parE p) 417)];λj=>match j with|0=>⟨(17,.own 40)::T,(40,.row rdgE ((((cmN m (perfL m) [(⟨cmI m l n,[],[]⟩:Par)] (perfL m).length).take q).map (rdOf (ofL m l n) []))) 50 4)::H⟩|1=>⟨(17,.own 40)::(73,.own 40)::T,(40,.row rdgE ((((cmN m (perfL m) [(⟨cmI m l n,[],[]⟩:Par)] (perfL m).length).take q).map (rdOf (ofL m l n) []))) 50 4)::H⟩|2=>⟨(86,.own 40)::T,(40,.row rdgE ((((cmN m (perfL m) [(⟨cmI m l n,[],[]⟩:Par)] (perfL m).length).take q).map (rdOf (ofL m l n) []))++[(rdOf (ofL m l n) [] p)]) 50 4)::H⟩|_=>⟨(17,.own 40)::T,(40,.row rdgE ((((cmN m (perfL m) [(⟨cmI m l n,[],[]⟩:Par)] (perfL m).length).take q).map (rdOf (ofL m l n) []))++[(rdOf (ofL m l n) [] p)]) 50 4)::H⟩) mo (zP (yh)) (λj hj=>?_) ⟨λβ=>Co2 rfl (yW (bA yU) rfl rfl),λβ=>Co2 rfl (zaw (l:=(((cmN m (perfL m) [(⟨cmI m l n,[],[]⟩:Par)] (perfL m).length).take q).map (rdOf (ofL m l n) []))) (l2:=[(rdOf (ofL m l n) [] p)]) rfl rfl rfl zp1 ti50 ac ac (λ_=>rfl) (λ_=>rfl) aj rfl),λβ=>Co2 rfl (yW (bA yU) rfl rfl),trivial⟩ ?_
   ·rcases j with _|_|_|_|j
    ·refine⟨.inr ⟨_,rfl,rfl,rfl,rfl,bA yU⟩,?_⟩;refine⟨.inr ⟨_,rfl,rfl,rfl,rfl,za4 rfl rfl rfl (bK _) (zg (ofL m l n) aa)⟩,?_⟩;refine⟨.inr ⟨_,rfl,rfl,rfl,rfl,bA yU⟩,?_⟩;refine⟨.inr ⟨_,rfl,rfl,rfl,rfl,za4 rfl rfl rfl (bK _) (zg [] ac)⟩,?_⟩;(iterate 2 refine⟨.inr ⟨_,rfl,rfl,rfl,rfl,bA yU⟩,?_⟩);refine⟨.inr ⟨_,rfl,rfl,rfl,rfl,za4 rfl rfl rfl (bK _) (zg p.made (by have:=Q.d;omega))⟩,?_⟩;(iterate 2 refine⟨.inr ⟨_,rfl,rfl,rfl,rfl,bA yU⟩,?_⟩);refine⟨.inr ⟨_,rfl,rfl,rfl,rfl,za4 rfl rfl rfl (bK _) (zd9 p.items (by have:=Q.i;omega))⟩,?_⟩;refine⟨.inr ⟨_,rfl,rfl,rfl,rfl,bA yU⟩,?_⟩;refine⟨.inr ⟨_,rfl,rfl,rfl,rfl,zu (enc:=rdgE) (l:=[(rdOf (ofL m l n) [] p)]) zp1 ty50 ze50 ac rfl rfl rfl rfl ac ac (λ_=>rfl) rfl⟩,?_⟩;exact True.intro
    ·refine⟨.inr ⟨_,rfl,rfl,rfl,rfl,bA yU⟩,?_⟩;refine⟨.inr ⟨_,rfl,rfl,rfl,rfl,za4 rfl rfl rfl (bK _) (zg (ofL m l n) aa)⟩,?_⟩;refine⟨.inr ⟨_,rfl,rfl,rfl,rfl,bA yU⟩,?_⟩;refine⟨.inr ⟨_,rfl,rfl,rfl,rfl,za4 rfl rfl rfl (bK _) (zg [] ac)⟩,?_⟩;(iterate 2 refine⟨.inr ⟨_,rfl,rfl,rfl,rfl,bA yU⟩,?_⟩);refine⟨.inr ⟨_,rfl,rfl,rfl,rfl,za4 rfl rfl rfl (bK _) (zg p.made (by have:=Q.d;omega))⟩,?_⟩;(iterate 2 refine⟨.inr ⟨_,rfl,rfl,rfl,rfl,bA yU⟩,?_⟩);refine⟨.inr ⟨_,rfl,rfl,rfl,rfl,za4 rfl rfl rfl (bK _) (zd9 p.items (by have:=Q.i;omega))⟩,?_⟩;refine⟨.inr ⟨_,rfl,rfl,rfl,rfl,bA yU⟩,?_⟩;refine⟨.inr ⟨_,rfl,rfl,rfl,rfl,zu (enc:=rdgE) (l:=[(rdOf (ofL m l n) [] p)]) zp1 ty50 ze50 ac rfl rfl rfl rfl ac ac (λ_=>rfl) rfl⟩,?_⟩;exact True.intro
    ·exact yE
    ·exact yE
    ·exact absurd (show j+4<=3 from hj) aa
   refine gq ?_;refine yr (q+1) (hI:=kW)
  ·obtain rfl:q=(cmN m (perfL m) [(⟨cmI m l n,[],[]⟩:Par)] (perfL m).length).length:=aa
   have hW:((cmN m (perfL m) [(⟨cmI m l n,[],[]⟩:Par)] (perfL m).length).take (cmN m (perfL m) [(⟨cmI m l n,[],[]⟩:Par)] (perfL m).length).length).map (rdOf (ofL m l n) [])=cmV m l n:=by rw[jR];exact hV
   apply bH;apply yc;refine yo ?_;refine bC ?_;refine yi (kY (k:=40) rfl) ?_;refine yn ?_ ?_;all_goals(first|exact zE hV|(rw[hE,x2];done)|exact jA (λz=>zcr z) hW|exact jA (λz=>AV.int .i64 z) hE.symm)
end
section
variable{l:List Sg}{m:Mn}
attribute [local irreducible] FnW FnOW FnP FnD
def zqH(m:Mn):∀(L:List Int)(l:List Par),(cmL m L l).2=0\/(cmL m L l).2=15
 |[],_=>.inl rfl
 |k::r,l=>by
  simp only[cmL];split
  ·exact zqH m r _
  ·exact .inr rfl
def zyI(m:Mn)(l:List Sg)(n:Int):cmE m l n=0\/cmE m l n=15:=zqH _ _ _
def zBk(m:Mn)(l:List Sg)(n:Nat):aqN m l n++cmV m l (n:Int)=aqN m l (n+1):=rfl
def zyJ(h:cntE m l=0):ckM m=0/\ckD m l=0:=⟨(zcD (zmC h)).1,zmC h⟩
attribute [local irreducible] cmV cmE ofL perfL cntE cntV aqN aqX aqE aqV
def zgV(m:Mn)(l:List Sg)(hl:l.length<=1000)(hn:NC l):Fn prog 204 [mnA m,sgsA l] (.tup [iv (cntV m l),iv (cntE m l)]):=by
 refine bB func204 ntmps204 (λg w d=>?_);refine gc (zlh m l hl hn) ?_;refine yn ?_ ?_;all_goals exact zR
def zjO(m:Mn)(l:List Sg)(hl:l.length<=1000)(hn:NC l):Fn prog 165 [mnA m,sgsA l] (.tup [zcr (aqV m l),iv (aqE m l)]):=by
 have k8:[]=aqN m l 0:=by unfold aqN;rfl
 refine bB func165 ntmps165 (λg w d=>?_);refine gc (zgV m l hl hn) ?_;refine gd ?_ ?_<;>intro w2
 ·have v9:=zG4 w2;obtain⟨hE,Q⟩:=v9;apply yc;refine yo ?_;refine bC ?_;refine yi (yh (ts:=[(4,zcr []),(5,iv (cntE m l))]) (hs:=[])) ?_;refine yn ?_ ?_;all_goals(first|exact zE Q|(rw[hE,H];done)|exact zE hE|exact jA (λz=>zcr z) Q|exact jA (λz=>AV.int .i64 z) hE.symm)
 have h0:cntE m l=0:=aa
 have v8:=zyJ h0;obtain⟨hM,v5⟩:=v8;have k7:=zlv h0;apply yf;apply yc;refine yk ?_;iterate 2 apply ye
 refine yl (yz rdgE 50 4 8 30 rfl rfl) ?_;apply yd;refine yC ?_;apply kX;refine zag (ι:=Nat) [1,2,8,21] (λ(k:Nat)zz=>(22,iv (k:Int))::zz) [2] (λ(k:Nat)zz=>(30,.row rdgE (aqN m l k) 50 4)::zz) (λ(k:Nat)=>k<=(cntV m l).toNat/\aqX m l k=true) (λ(k:Nat)=>(cntV m l).toNat-k) 0 (λk hk=>?_) (hJ:=by exact⟨jU _,by unfold aqX;rfl⟩);obtain⟨k6,hX⟩:=hk;refine gd ?_ ?_<;>intro k5
 ·have G:(k:Int)<cntV m l:=aa
  have x2:=zrh h0 G;have v4:=zri hM v5 x2;have x1:=zBk m l k;have k4:=zom hX;have k3:=zyH m hl (k:Int);refine gc (zhK m l (k:Int) hl hn hM x2 v4) ?_;refine gd ?_ ?_<;>intro x0
  ·have v3:=zBe h0 G (.inl x0);obtain⟨hE,Q⟩:=v3;have H:=(zyI m l (k:Int)).resolve_left x0;apply yc;refine yo ?_;refine bC ?_;refine yi (yh (ts:=[(4,zcr []),(5,iv (cmE m l (k:Int)))]) (hs:=[])) ?_;refine yn ?_ ?_;all_goals(first|exact zE Q|(rw[hE,H];done)|exact zE hE|exact jA (λz=>zcr z) Q|exact jA (λz=>AV.int .i64 z) hE.symm)
  have v2:cmE m l (k:Int)=0:=aa
  refine gd ?_ ?_<;>intro k2
  ·have xT:4096<(aqN m l (k+1)).length:=by rw[←x1];omega
   have v1:=zBe h0 G (.inr xT);obtain⟨hE,Q⟩:=v1;apply yc;refine yC ?_;refine bC ?_;refine yi (yh (ts:=[(4,zcr []),(5,iv 15)]) (hs:=[])) ?_;refine yn ?_ ?_;all_goals(first|exact zE Q|(rw[hE,H];done)|exact zE hE|exact jA (λz=>zcr z) Q|exact jA (λz=>AV.int .i64 z) hE.symm)
  have xT:(aqN m l (k+1)).length<=4096:=by rw[←x1];omega
  refine gq ?_;refine yr (k+1) (hJ:=by exact⟨aa,zG5 hX v2 xT⟩) (hI:=kW)
 ·obtain rfl:k=(cntV m l).toNat:=aa
  refine gd ?_ ?_<;>intro j4
  ·have v0:=zG6 h0 rfl hX aa;obtain⟨hE,Q⟩:=v0;apply yc;refine yC ?_;refine bC ?_;refine yi (yh (ts:=[(4,zcr []),(5,iv 14)]) (hs:=[])) ?_;refine yn ?_ ?_;all_goals(first|exact zE Q|(rw[hE,H];done)|exact zE hE|exact jA (λz=>zcr z) Q|exact jA (λz=>AV.int .i64 z) hE.symm)
  have k9:=zG7 h0 rfl hX aa;obtain⟨hE,Q⟩:=k9;apply yf;apply yc;refine yo ?_;refine bC ?_;refine yi (kY (k:=30) rfl) ?_;refine yn ?_ ?_;all_goals(first|exact zE Q|(rw[hE,H];done)|exact zE hE|exact jA (λz=>zcr z) Q|exact jA (λz=>AV.int .i64 z) hE.symm)
end
section
variable{M:List Int}{k:Int}{m:Mn}
def zmj{k:Int}{l l':List Ite}(hl:l.length=l'.length)(h:∀i:Int,0<=i->sameI (itg l i) (itg l' i)):∀n,n<=l.length->bdK k l n=bdK k l' n
 |0,_=>rfl
 |n+1,hn=>by
  have hx:l[n]? =some (l[n]'hn):=lgg hn;have Q:l'[n]? =some (l'[n]'aa):=lgg aa;have hs:=h (n:Int) aa;rw[ziF hx,ziF Q]at hs;rw[zdh hx,zdh Q,zmj hl h n aa];generalize l[n]'hn=x at*
  generalize l'[n]'aa=x' at*
  obtain⟨s1,s2,s3,s4,s5,s6⟩:=hs;unfold isH isC;rw[s2,s4,s6]
def zqI{l:List Ite}(h:segE m k l=0):(segV m k l).length=(bds k l).length-1:=by
 unfold segV;rw[j7 h,jD,zeb]
def Sam(I J:List Ite):Prop:=J.length=I.length/\∀i:Int,0<=i->sameI (itg J i) (itg I i)
def zyK(I:List Ite):Sam I I:=⟨rfl,λ_ _=>zam _⟩
def Sam.segs{I J:List Ite}(h:Sam I J):(bds k J).length=(bds k I).length:=by
 unfold bds;rw[jJ,jJ,zmj h.1 h.2 J.length (jG _),h.1]
def ztL{I J:List Ite}(h:Sam I J)(h0:apE m k J M=0):Sam I (apV m k J M):=by
 obtain⟨h1,G,H⟩:=zrm h0;have Q:=zlb (zdB h1) M.length aa H;unfold apV;rw[j7 h0];exact⟨Q.len.trans h.1,λi hi=>(Q.same i hi).tr (h.2 i hi)⟩
structure SamL(I:List Ite)(l:List Par):Prop where
 s:∀p∈l,Sam I p.items
 n:∀p∈l,p.now=[]
section
variable{m:Mn}{k:Int}{I:List Ite}{l:List Par}
variable{N:Int}{p q:Par}
def zqJ(h:∀p∈l,segE m k p.items=0->((segV m k p.items).length:Int)=N):∀a:Int,l.foldl (λa p=>if segE m k p.items=0 then((segV m k p.items).length:Int)else a) a=a/\(∀p∈l,¬segE m k p.items=0)\/l.foldl (λa p=>if segE m k p.items=0 then((segV m k p.items).length:Int)else a) a=N:=by
 induction l with
 |nil=>intro a;exact .inl ⟨rfl,ah⟩
 |cons p r ih=>
  intro a;rw[x9];have ih:=ih λq Q=>h q (wA _ Q)
  by_cases h0:segE m k p.items=0
  ·rw[j7 h0,h p ah h0];rcases ih N with h1|h1
   ·exact .inr h1.1
   ·exact .inr h1
  ·rw[j8 h0];rcases ih a with h1|h1
   ·refine .inl ⟨h1.1,λq Q=>?_⟩;rcases jW.1 Q with rfl|Q
    ·exact h0
    ·exact h1.2 q Q
   ·exact .inr h1
def znt(H:SamL I l)(G:p∈l)(h0:segE m k p.items=0):(cgN m k l).toNat=(segV m k p.items).length:=by
 have hN:∀q∈l,segE m k q.items=0->((segV m k q.items).length:Int)=((segV m k p.items).length:Int):=λq hq Q=>by
  rw[zqI Q,zqI h0,(H.s q hq).segs,(H.s p G).segs]
 rcases zqJ hN 0 with h1|h1
 ·exact absurd h0 (h1.2 p G)
 ·unfold cgN;rw[h1];omega
def zk2(hS:SamL I l){q:Par}:∀n,n<=(cgN m k l).toNat->(q∈brN m k l n↔∃p∈l,segE m k p.items=0/\∃M:List Int,M.length=n/\okJ (unT m k) k (segV m k p.items) p.items M n=true/\q={p with now:=M})
 |0,_=>by
  show q∈cgS m k l↔_;unfold cgS;rw[wG];constructor
  ·rintro⟨h1,h2⟩
   refine⟨q,h1,by simpa[cgP]using h2,[],rfl,rfl,?_⟩;have:=hS.n q h1;cases q;simp at this;subst this;rfl
  ·rintro⟨p,Q,h0,M,G,-,rfl⟩
   have:M=[]:=xZ.1 G;subst this;have hn:=hS.n p Q;have e:({p with now:=[]}:Par)=p:=by cases p;simp at hn;subst hn;rfl
   rw[e];exact⟨Q,by simpa[cgP]using h0⟩
 |n+1,hn=>by
  have ih:=λq=>zk2 hS (q:=q) n aa
  show q∈brF m k (brN m k l n)↔_;unfold brF;rw[x4]
  have x2:∀(p:Par),p∈l->segE m k p.items=0->∀M:List Int,M.length=n->okJ (unT m k) k (segV m k p.items) p.items M n=true->alV m k p.items M=alK (unT m k) k (segV m k p.items) p.items M n:=by
   intro p Q h0 M G hok;have hN:=znt hS Q h0
   have hE:alE m k p.items M=0:=by
    unfold alE;rw[j7 h0,j8];intro H;rcases H with H|H
    ·omega
    ·rw[G,hok]at H;cases H
   unfold alV;rw[j7 hE,G]
  constructor
  ·rintro⟨p',x0,hq⟩
   obtain⟨p,Q,h0,M,G,hok,rfl⟩:=(ih p').1 x0;unfold br1 at hq;obtain⟨c,H,rfl⟩:=jS.1 hq;have H:c∈alV m k p.items M:=H;rw[x2 p Q h0 M G hok]at H;refine⟨p,Q,h0,M++[c],by simp[G],?_,rfl⟩;show(okJ _ k _ p.items (M++[c]) n&&decide ((M++[c]).getD n 0∈alK _ k _ p.items (M++[c]) n))=true;rw[zif M [c] n aa,zie M [c] aa,hok,Bool.true_and,x8]
   have:(M++[c]).getD n 0=c:=by
    rw[jB,wC aa,show n-M.length=0 by omega];rfl
   rw[this];exact H
  ·rintro⟨p,Q,h0,M,G,hok,rfl⟩
   have hok:(okJ (unT m k) k (segV m k p.items) p.items M n&&decide (M.getD n 0∈alK (unT m k) k (segV m k p.items) p.items M n))=true:=hok;simp only[jE,w8]at hok
   have xT:M=M.take n++[M.getD n 0]:=by
    have hx:M[n]? =some (M[n]'aa):=lgg aa;rw[jB,hx];conv=>lhs;rw[←jR (l:=M),G,jK,hx]
    rfl
   have x1:(M.take n).length=n:=by rw[jO];omega
   have e1:okJ (unT m k) k (segV m k p.items) p.items (M.take n) n=true:=by
    have:=zif (u:=unT m k) (k:=k) (S:=segV m k p.items) (l:=p.items) (M.take n) [M.getD n 0] n aa;rw[←xT]at this;rw[←this];exact hok.1
   have e2:M.getD n 0∈alK (unT m k) k (segV m k p.items) p.items (M.take n) n:=by
    have:=zie (u:=unT m k) (k:=k) (S:=segV m k p.items) (l:=p.items) (M.take n) [M.getD n 0] (n:=n) aa;rw[←xT]at this;rw[←this];exact hok.2
   refine⟨{p with now:=M.take n},(ih _).2 ⟨p,Q,h0,M.take n,x1,e1,rfl⟩,?_⟩;unfold br1;refine jS.2 ⟨M.getD n 0,?_,?_⟩
   ·show _∈alV m k p.items (M.take n);rw[x2 p Q h0 _ x1 e1];exact e2
   ·show({p with now:=M.take n++[M.getD n 0]}:Par)={p with now:=M};rw[←xT]
def zoq:∀(n j:Nat),(brX m k n (brN m k l j)).2=0->(brX m k n (brN m k l j)).1=brN m k l (j+n)
 |0,j,_=>rfl
 |n+1,j,h=>by
  unfold brX at h⊢;split at h
  ·cases h
  ·rename_i Q;rw[j8 Q];have:=zoq n (j+1) h;rw[show j+(n+1)=j+1+n by omega];exact this
def zyL(h0:alvE m k l=0):alvV m k l=(brN m k l (cgN m k l).toNat).map (ap1 m k):=by
 unfold alvV;rw[j7 h0];have:=zoq (m:=m) (k:=k) (l:=l) (cgN m k l).toNat 0 h0;rw[u6]at this;unfold alvR;rw[show cgS m k l=brN m k l 0 from rfl,this]
def zh7(G:SamL I l)(h0:alvE m k l=0):q∈alvV m k l↔∃p∈l,∃M:List Int,apE m k p.items M=0/\q=⟨apV m k p.items M,[],p.made++M⟩:=by
 rw[zyL h0,jS];constructor
 ·rintro⟨p',xT,rfl⟩
  obtain⟨p,Q,h1,M,hM,hok,rfl⟩:=(zk2 G _ (jG _)).1 xT;have hN:=znt G Q h1;refine⟨p,Q,M,?_,rfl⟩;unfold apE;rw[j7 h1,j8];intro H;rcases H with H|H
  ·omega
  ·rw[hM,hok]at H;cases H
 ·rintro⟨p,Q,M,hM,rfl⟩
  obtain⟨h1,h2,h3⟩:=zrm hM;have hN:=znt G Q h1;refine⟨{p with now:=M},(zk2 G _ (jG _)).2 ⟨p,Q,h1,M,aa,?_,rfl⟩,rfl⟩;rw[hN,h2];exact h3
def ztM(Q:SamL I l)(h0:alvE m k l=0):SamL I (alvV m k l):=by
 constructor
 ·intro q H;obtain⟨p,G,M,hM,rfl⟩:=(zh7 Q h0).1 H;exact ztL (Q.s p G) hM
 ·intro q H;obtain⟨p,G,M,hM,rfl⟩:=(zh7 Q h0).1 H;rfl
end
def gLv(m:Mn):List Int->List Ite->List Int->List Ite->Prop
 |[],I,C,J=>C=[]/\J=I
 |k::r,I,C,J=>∃M C',C=M++C'/\apE m k I M=0/\gLv m r (apV m k I M) C' J
def zor{m:Mn}{I:List Ite}:∀(L:List Int)(l:List Par),SamL I l->(cmL m L l).2=0->∀q,(q∈(cmL m L l).1↔∃p∈l,∃C J,gLv m L p.items C J/\q=⟨J,[],p.made++C⟩)
 |[],l,Q,h,q=>by
  show q∈l↔_;constructor
  ·intro hq;refine⟨q,hq,[],q.items,⟨rfl,rfl⟩,?_⟩;have:=Q.n q hq;cases q;simp at this;subst this;simp
  ·rintro⟨p,H,C,J,⟨rfl,rfl⟩,rfl⟩
   have:=Q.n p H;cases p;simp at this;subst this;simpa using H
 |k::r,l,Q,h,q=>by
  simp only[cmL]at h⊢;by_cases h0:alvE m k l=0
  ·rw[j7 h0]at h⊢;rw[zor r _ (ztM Q h0) h q];constructor
   ·rintro⟨p',G,C,J,hg,rfl⟩
    obtain⟨p,H,M,hM,rfl⟩:=(zh7 Q h0).1 G;exact⟨p,H,M++C,J,⟨M,C,rfl,hM,hg⟩,ah⟩
   ·rintro⟨p,H,C,J,⟨M,C',rfl,hM,hg⟩,rfl⟩
    exact⟨_,(zh7 Q h0).2 ⟨p,H,M,hM,rfl⟩,C',J,hg,ah⟩
  ·rw[j8 h0]at h;cases h
section
variable{m:Mn}{l:List Sg}
variable{n:Int}{r:Rdg}
def zk3(h:cmE m l n=0):r∈cmV m l n↔∃C J,gLv m (perfL m) (cmI m l n) C J/\r=⟨ofL m l n,[],C,J.map (·.Dur)⟩:=by
 unfold cmV;rw[j7 h,jS];have G:SamL (cmI m l n) [⟨cmI m l n,[],[]⟩]:=⟨λp Q=>by simp at Q;subst Q;exact zyK _,λp Q=>by simp at Q;subst Q;rfl⟩;have hm:=zor (perfL m) _ G h;constructor
 ·rintro⟨q,hq,rfl⟩
  obtain⟨p,Q,C,J,H,rfl⟩:=(hm q).1 hq;simp at Q;subst Q;exact⟨C,J,H,rfl⟩
 ·rintro⟨C,J,H,rfl⟩
  exact⟨⟨J,[],C⟩,(hm _).2 ⟨⟨cmI m l n,[],[]⟩,ah,C,J,H,ah⟩,rfl⟩
def zk4{r:Rdg}:∀N,r∈aqN m l N↔∃n:Nat,n<N/\r∈cmV m l n
 |0=>by simp[aqN]
 |N+1=>by
  show r∈aqN m l N++cmV m l N↔_;rw[w9,zk4 N];constructor
  ·rintro(⟨n,h1,Q⟩|h)
   ·exact⟨n,aa,Q⟩
   ·exact⟨N,aa,h⟩
  ·rintro⟨n,h1,Q⟩
   rcases wH n N with h|h
   ·exact .inl ⟨n,h,Q⟩
   ·have:n=N:=aa
    subst this;exact .inr Q
def zh8:∀{N:Nat},aqX m l N=true->∀n:Nat,n<N->cmE m l n=0
 |0,_,n,hn=>by omega
 |N+1,h,n,hn=>by
  have h:(aqX m l N&&decide (cmE m l N=0)&&decide ((aqN m l (N+1)).length<=4096))=true:=h;simp only[jE,w8]at h;rcases wH n N with h1|h1
  ·exact zh8 h.1.1 n h1
  ·have:n=N:=aa
   subst this;exact h.1.2
def zwQ(h:aqE m l=0):cntE m l=0/\aqX m l (cntV m l).toNat=true/\aqV m l=aqN m l (cntV m l).toNat/\¬(aqV m l).length=0:=by
 have Q:aqV m l=aqN m l (cntV m l).toNat:=by unfold aqV;rw[j7 h]
 rw[Q];unfold aqE at h;split at h
 ·rename_i h1;split at h
  ·rename_i H;split at h
   ·cases h
   ·rename_i G;exact⟨h1,H,rfl,G⟩
  ·cases h
 ·exact absurd h ai
def zyM(h:aqE m l=0):r∈aqV m l↔∃n:Nat,(n:Int)<cntV m l/\∃C J,gLv m (perfL m) (cmI m l n) C J/\r=⟨ofL m l n,[],C,J.map (·.Dur)⟩:=by
 obtain⟨h1,Q,H,-⟩:=zwQ h;rw[H,zk4];constructor
 ·rintro⟨n,hn,hr⟩
  exact⟨n,aa,(zk3 (zh8 Q n hn)).1 hr⟩
 ·rintro⟨n,hn,hr⟩
  exact⟨n,aa,(zk3 (zh8 Q n aa)).2 hr⟩
end
def zmk{m:Mn}{I:List Ite}(h0:ckM m=0)(h1:ckIE I=0)(h:leE m I=0):∀d n,n+d=(perfL m).length->∃C,gLv m ((perfL m).drop n) (lvN m (perfL m) I n).2 C (leI m I)/\leC m I=(lvN m (perfL m) I n).1++C
 |0,n,hn=>by
  have hn:n=(perfL m).length:=aa
  subst hn;obtain⟨e1,e2⟩:=zro h0 h1 h;refine⟨[],?_,by rw[e1];simp⟩;rw[uD];exact⟨rfl,e2.symm⟩
 |d+1,n,hn=>by
  have hk:(perfL m)[n]? =some ((perfL m)[n]'aa):=lgg aa;obtain⟨C,Q,H⟩:=zmk h0 h1 h d (n+1) aa;obtain⟨-,-,-,p4,p5,p6⟩:=zt9 h0 h1 h hk;obtain⟨e1,e2⟩:=zih (m:=m) (l:=I) hk;refine⟨cuV m ((perfL m)[n]'aa) (lvN m (perfL m) I n).2++C,?_,?_⟩
  ·rw[jQ (show n<(perfL m).length by omega)];exact⟨_,C,rfl,p5,by rw[p6];exact Q⟩
  ·rw[H,←e1,u4]
end
section
section
variable{m:Mn}{k:Int}
end
section
variable{m:Mn}{l:List Sg}
theorem zBl(Q:ckD m l=0)(h:aqE m l=14):¬rdE m l=0:=by
 intro he;have G:=(zcD Q).1;unfold aqE at h;split at h
 ·rename_i h1;split at h
  ·rename_i h2;split at h
   ·rename_i h3;have H:leE m (rdI m l)=0:=by unfold rdE at he;rw[j7 Q]at he;exact he
    obtain⟨-,hI⟩:=zzc H;obtain⟨n0,hn,e1⟩:=zt4 G Q h1;obtain⟨C,hg,-⟩:=zmk G hI H (perfL m).length 0 aa;rw[List.drop_zero]at hg
    have hr:(⟨ofL m l n0,[],C,(leI m (rdI m l)).map (·.Dur)⟩:Rdg)∈aqN m l (cntV m l).toNat:=
     (zk4 _).2 ⟨n0,aa,(zk3 (zh8 h2 n0 aa)).2 ⟨C,leI m (rdI m l),by unfold cmI;rw[e1];exact hg,rfl⟩⟩
    rw[xZ.1 h3]at hr;simp at hr
   ·cases h
  ·cases h
 ·rename_i h1;rw[zrz Q h1]at h;cases h
theorem zyN(Q:ckD m l=0):aqE m l=0\/aqE m l=14\/aqE m l=15:=by
 unfold aqE;split
 ·split
  ·split
   ·exact .inr (.inl rfl)
   ·exact .inl rfl
  ·exact .inr (.inr rfl)
 ·rename_i h;exact .inr (.inr (zrz Q h))
end
end
section
variable{m:Md}{n q:Nat}
structure SnK(V:List Nu)(x:Nat×Int×Bool)(s:Sn):Prop where
 u:∃y,V[x.1]? =some y/\s.R=y.R/\s.P=y.P/\s.S=y.S/\s.Ps=y.Ps
 v:s.V=liL 8 x.2.1
 t:s.T=x.2.2
 k:okQ 8 x.2.1=true
def evU(x:Nu)(u:Int):Ev:=⟨⟨0,0⟩,tq u,x.P,x.R,x.S,x.Ps⟩
def evO(V:List Nu)(l:List Int):List Ev:=l.mapIdx λi u=>evU (V.getD i default) u
def evN(V:List Nu)(i:Nat):List Ev:=V.mapIdx λj x=>⟨if j<i then tq (pf (usV V) j)else⟨0,0⟩,tq x.u,x.P,x.R,x.S,x.Ps⟩
section
variable{V:List Nu}{l:List Int}{k i:Nat}{c c':Int}{x:Nu}
def zh9(V:List Nu)(l:List Int):(evO V l).length=l.length:=by unfold evO;simp
def zqK(hk:l.length=k)(hx:V[k]? =some x)(c:Int):evO V l++[evU x c]=evO V (l++[c]):=by
 simp_all[evO]
def zyO(hk:l.length=k)(hx:V[k]? =some x):(evO V (l++[c]))[k]? =some (evU x c):=by
 grind[evO]
def ztN(hk:l.length=k)(hx:V[k]? =some x):(evO V (l++[c])).set k (evU x c')=evO V (l++[c']):=by
 rw[←zqK hk hx,←zqK hk hx,vQ _ _ (by rw[zh9];omega),zh9,hk,Nat.sub_self];rfl
def zBm(V:List Nu):evO V (usV V)=evN V 0:=by
 refine wN λi=>?_
 grind[evO,evN,evU]
def zos(V:List Nu)(i:Nat):(evN V i).length=V.length:=by unfold evN;simp
def zyP(hx:V[i]? =some x):(evN V i)[i]? =some (evU x x.u):=by simp_all[evN,evU]
def ztO(hx:V[i]? =some x):(evN V i).set i (evA V i x)=evN V (i+1):=by
 refine wN λj=>?_
 grind[evN,evA]
def zBn(V:List Nu):evN V V.length=evL V:=by
 refine wN λj=>?_
 unfold evN evL;rw[uR,uR];cases h:V[j]? with
 |none=>rfl
 |some y=>
  have:=(j5.1 h).1;simp only[wS];rw[j7 this];rfl
end
def pv(l:List Md)(q:Nat):Int:=((l.take q).map vuM).sum
def zHh{l:List Md}(h:l[q]? =some m):pv l (q+1)=pv l q+vuM m:=by unfold pv;rw[jK,h];simp
def zHi{u:Int}:∀q,0<=pv (liL n u) q:=λq=>by
 unfold pv
 have:∀l:List Md,(∀m∈l,-3<=m.P/\m.P<=6)->0<=(l.map vuM).sum:=λl=>by
  induction l with
  |nil=>simp_all
  |cons a r ih=>
   intro h;have h1:0<=vuM a:=(zsv a.D (h a ah)).1;simp_all[List.sum_cons];omega
 exact this _ λm hm=>zp3 n u m (xG hm)
def zqL(h:-3<=m.P/\m.P<=6):vuM m<=1536:=by
 unfold vuM;have e:=zuU h;obtain⟨p,b,t⟩:=m;dsimp only at e⊢;rcases e with e|e|e|e|e|e|e|e|e|e<;>subst e<;>cases b<;>decide
def zBo{u:Int}(q:Nat):pv (liL n u) q<=n*1536:=by
 unfold pv
 have h1:=zlH (l:=((liL n u).take q).map vuM) (B:=1536) λx hx=>by
  obtain⟨m,hm,rfl⟩:=jS.1 hx;exact zqL (zp3 n u m (xG hm))
 grind[ziy]
def zHj(l:List Md)(c:Int):c=c+pv l 0:=by unfold pv;simp
def zHk{u:Int}(h:okQ 8 u=true):pv (liL 8 u) (liL 8 u).length=u:=by simp_all[pv,znn]
def zyQ{u:Int}(h:m∈liL n u):Uq (vuM m):=zsv m.D (zp3 n u m h)
def zyR{u:Int}(h:m∈liL n u):Fn prog 53 [mdA m] (.tup [tmA (tq (vuM m)),iv 0]):=by
 have h1:=zhy m.P m.D (zp3 n u m h);rw[←zyv n u m h]at h1;exact h1
def zBp{u:Int}(h:okQ 8 u=true)(h0:0<u):liL 8 u≠[]:=λe=>by
 grind[znn]
def zk5{S:List (Nat×Int×Bool)}{j:Nat}{x:Nat×Int×Bool}(h:S[j]? =some x):S.drop j=x::S.drop (j+1):=by
 grind[List.drop_eq_getElem_cons]
structure VoJ(V:List Nu)(S:List (Nat×Int×Bool))(j:Nat)(p:Int)(b:Bool):Prop where
 l:j<=S.length
 r:0<=p/\p<=60000
 c:chP (usV V) (S.drop j) p
 b:∀x,S[j]? =some x->b=decide (pf (usV V) x.1<p)
def zHl{V:List Nu}(h:VoK V){S:List (Nat×Int×Bool)}(Q:chP (usV V) S 0):VoJ V S 0 0 false:=⟨jU _,⟨vD _,aa⟩,Q,λx hx=>by
 have:=zgm h.pos x.1;simp_all⟩
def zHm{V:List Nu}(h:VoK V){S:List (Nat×Int×Bool)}{j:Nat}{p:Int}{b:Bool}{x:Nat×Int×Bool}(hJ:VoJ V S j p b)(hx:S[j]? =some x):VoJ V S (j+1) (p+x.2.1) x.2.2:=by
 obtain⟨k,d,t⟩:=x;have Q:=hJ.c;rw[zk5 hx]at Q;have H:=Q;obtain⟨h1,h2,h3,h4,h5,G⟩:=H;have hp:=h.pf (k+1);have hj:=(j5.1 hx).1;refine⟨aa,⟨by have:=hJ.r;dsimp only;omega,am⟩,G,λy hy=>?_⟩;rw[zk5 hy]at Q;exact zru h.pos Q
attribute [local irreducible] ckT addE addV tq cmpV vu lgV lgL liL okQ vuM pf evO evN evL pv voD
def zhL(V:List Nu)(h:VoK V)(S:List (Nat×Int×Bool))(hS:chP (usV V) S 0)(Bs:List (List Sn))(hl:Bs.flatten.length=S.length)(hN:∀(j:Nat)(s:Sn),Bs.flatten[j]? =some s->∃x,S[j]? =some x/\SnK V x s)(v8:Bs.length<=1000000)(j4:S.length<=1000000):Fn prog 23 [.sl snsE Bs] (.tup [evsA (evL V),iv 0]):=by
 have hVl:=h.l;have hul:(usV V).length=V.length:=jD ..;refine bB func23 ntmps23 (λg w d=>?_);apply yc;iterate 2 refine ya ?_
 apply yp;refine yk ?_;apply ye;refine yl (yz evE 62 10 4 39 rfl rfl) ?_;refine gq ?_;refine zf (zau Bs v8 aa) ?_;refine yC ?_;apply kX;have hv0:[]=evO V (voD (usV V) 0):=by rw[zHv h.pos];unfold evO;rfl
 refine ze8 (ι:=Nat×Int×Bool) (λ(q0:Nat×Int×Bool)=>[(4,.own 39),(5,.bool q0.2.2),(19,.sl snE Bs.flatten),(20,iv (Bs.flatten.length:Int)),(21,iv (q0.1:Int))]) (λ(q0:Nat×Int×Bool)=>[(39,.row evE (evO V (voD (usV V) q0.2.1)) 62 10)]) (λ(q0:Nat×Int×Bool)=>VoJ V S q0.1 q0.2.1 q0.2.2) (λ(q0:Nat×Int×Bool)=>S.length-q0.1) (0,0,false) (λq0 hk=>?_) (hJ:=by exact zHl h hS) (h0:=by exact kW);obtain⟨j,p,b⟩:=q0;dsimp only at*
 have j3:=hk;have hjl:=hk.l;have hjp:=hk.r;refine gd ?_ ?_<;>intro hc1
 ·have x1:=@getX _ Bs.flatten j aa;obtain⟨s,hs,hs2⟩:=x1;have j2:=hN j s hs;obtain⟨⟨k,d,t⟩,hx,hK⟩:=j2;obtain⟨⟨y,hy,k1,k2,k3,k4⟩,k5,k6,k7⟩:=hK;dsimp only at hy k5 k6 k7;have H:=hk.b _ hx;dsimp only at H;have hc:=hk.c;rw[zk5 hx]at hc;have x0:=zHx h.pos hc;have j1:=zHy h.pos hc;obtain⟨hku,hkp,j0,-⟩:=hc;have hsv:=uZ.2 (zBp k7 j0);have hsl:s.V.length=(liL 8 d).length:=by rw[k5]
  have G:((usV V).take k).length=k:=by rw[jO];omega
  have hll:=ziy 8 d;have h4:(evO V ((usV V).take k++[p-pf (usV V) k])).length=k+1:=by rw[zh9,jJ,G];rfl
  refine gd ?_ ?_<;>intro hc2
  ·omega
  apply yf;refine zbm ⟨[(4,.own 39),(5,.bool b),(19,.sl snE Bs.flatten),(20,iv (Bs.flatten.length:Int)),(21,iv (j:Int)),(7,.ptr 7 0 0 0)],[(7,.box (snE s) 77),(39,.row evE (evO V ((usV V).take k++[p-pf (usV V) k])) 62 10)]⟩ (λx2=>?_) ?_
  ·refine gd ?_ ?_<;>intro v5
   ·have xT:¬pf (usV V) k<p:=by rw[v5]at H;exact of_decide_eq_false H.symm
    have hZ:(⟨⟨0,0⟩,⟨0,1⟩,s.P,s.R,s.S,s.Ps⟩:Ev)=evU y 0:=by unfold evU;rw[zup,k1,k2,k3,k4]
    have v4:evO V (voD (usV V) p)++[(⟨⟨0,0⟩,⟨0,1⟩,s.P,s.R,s.S,s.Ps⟩:Ev)]=evO V ((usV V).take k++[p-pf (usV V) k]):=by rw[hZ,x0,j8 xT,zqK G hy,show p-pf (usV V) k=0 by omega]
    have hol:(evO V (voD (usV V) p)).length=k:=by rw[zh9,x0,j8 xT,G]
    refine gq ?_;refine yH evE [⟨⟨0,0⟩,⟨0,1⟩,s.P,s.R,s.S,s.Ps⟩] ?_;refine bF ?_;refine yk ?_;exact yl kW x2
   ·have xT:pf (usV V) k<p:=by rw[v5]at H;exact of_decide_eq_true H.symm
    have v4:evO V (voD (usV V) p)=evO V ((usV V).take k++[p-pf (usV V) k]):=by rw[x0,j7 xT]
    apply yf;exact yl kW x2
  apply yc;iterate 5 refine ya ?_
  refine yk ?_;apply ye;apply yc;refine ya ?_;refine yo ?_;apply kX;have hq0:evO V ((usV V).take k++[p-pf (usV V) k])=evO V ((usV V).take k++[p-pf (usV V) k+pv (liL 8 d) 0]):=by rw[←zHj]
  refine zvc (λq=>[(4,.own 39),(5,.bool b),(19,.sl snE Bs.flatten),(20,iv (Bs.flatten.length:Int)),(21,iv (j:Int)),(7,.ptr 7 0 0 0),(8,.ptr 39 10 k 0),(50,.sl mdE (liL 8 d)),(51,iv ((liL 8 d).length:Int)),(52,iv (q:Int))]) (λq=>[(7,.box (snE s) 77),(39,.row evE (evO V ((usV V).take k++[p-pf (usV V) k+pv (liL 8 d) q])) 62 10)]) ((liL 8 d).length) (λq hk=>?_);refine gd ?_ ?_<;>intro hc4
  ·have x1:=@getX _ (liL 8 d) q aa;obtain⟨m,hm,hm2⟩:=x1;have w2:=j6 hm;have v8:=zHi (n:=8) (u:=d) q;have j4:=zBo (n:=8) (u:=d) q;have hY:=zyQ w2;have hb3:=zqL (zp3 8 d m w2);have hpb:=h.pf k;have hX:Uq (p-pf (usV V) k+pv (liL 8 d) q):=⟨aa,aa⟩;have v9:=zyO (c:=p-pf (usV V) k+pv (liL 8 d) q) G hy;have hst4:(evO V ((usV V).take k++[p-pf (usV V) k+pv (liL 8 d) q])).set k (evU y (p-pf (usV V) k+pv (liL 8 d) q+vuM m))=evO V ((usV V).take k++[p-pf (usV V) k+pv (liL 8 d) (q+1)]):=by rw[ztN G hy,zHh hm,Int.add_assoc]
   refine gc (zyR w2) ?_;refine gd ?_ ?_<;>intro hW
   ·exact absurd rfl hW
   refine gq ?_;refine y4 [64,65,66,67,68,69,70,71,72,73,74,75] [0,0,2,6,14,0,62,126,254,254,511,1535,3583,8191] mo ?_;(iterate 2 refine yb ?_);refine yb ?_ (hs:=by exact yg rfl);refine yb ?_;refine yb ?_ (hs:=by exact zB (n:=2) (ys:=tmE (tq (p-pf (usV V) k+pv (liL 8 d) q))) rfl rfl v9 rfl rfl ac rfl ty35);refine yb ?_;refine yI (C_qadd hX hY rfl aa) ?_;(iterate 3 refine yb ?_);refine yb ?_ (hs:=by exact yg rfl);refine yb ?_;refine zar 9 ⟨[(4,.own 39),(5,.bool b),(19,.sl snE Bs.flatten),(20,iv (Bs.flatten.length:Int)),(21,iv (j:Int)),(7,.ptr 7 0 0 0),(8,.ptr 39 10 k 0),(50,.sl mdE (liL 8 d)),(51,iv ((liL 8 d).length:Int)),(52,iv (q:Int)),(12,iv 0)],[(7,.box (snE s) 77),(39,.row evE (evO V ((usV V).take k++[p-pf (usV V) k+pv (liL 8 d) (q+1)])) 62 10)]⟩ (λQ hQ=>?_) (λQ hQ=>?_) ?_
   ·refine bF (hs:=y6 (n:=2) (evU y (p-pf (usV V) k+pv (liL 8 d) q)) (evU y (p-pf (usV V) k+pv (liL 8 d) q+vuM m)) rfl rfl v9 (λ_=>rfl) ac rfl rfl rfl ac rfl rfl rfl TyK.h) ?_;refine ya ?_;exact yY kW hQ
   ·refine bF (hs:=y6 (n:=2) (evU y (p-pf (usV V) k+pv (liL 8 d) q)) (evU y (p-pf (usV V) k+pv (liL 8 d) q+vuM m)) rfl rfl v9 (λ_=>rfl) ac rfl rfl rfl ac rfl rfl rfl TyK.h) ?_;(iterate 2 refine ya ?_);exact yY kW hQ
   refine gd ?_ ?_<;>intro hG
   ·exact absurd rfl hG
   refine gq ?_;refine yr (q+1) (hI:=kW)
  ·obtain rfl:q=(liL 8 d).length:=aa
   have hst5:evO V ((usV V).take k++[p-pf (usV V) k+pv (liL 8 d) (liL 8 d).length])=evO V (voD (usV V) (p+d)):=by rw[j1,zHk k7]
   refine gq ?_;refine yr ((j+1,p+d,t)) (hJ:=by exact zHm h j3 hx) (hm:=by(show S.length-(j+1)<S.length-j;omega)) (hI:=kW)
 ·obtain rfl:j=S.length:=aa
  have v3:=hk.c;rw[uD]at v3;have v2:p=(usV V).sum:=v3;have hF:evO V (voD (usV V) p)=evN V 0:=by rw[v2,zHw h.pos,zBm]
  have hnl:(evO V (voD (usV V) p)).length=V.length:=by rw[hF,zos]
  have hp0:tmE ⟨0,1⟩=tmE (tq (pf (usV V) 0)):=by rw[ziZ,zup]
  apply bH;apply yc;refine ya ?_;refine yP ?_;refine bF ?_;apply bD;apply ye;apply yc;refine yo ?_;apply kX;refine zvc (λi=>[(4,.own 39),(13,.ptr 13 0 0 0),(85,iv (V.length:Int)),(86,iv (i:Int))]) (λi=>[(13,.box (tmE (tq (pf (usV V) i))) 35),(39,.row evE (evN V i) 62 10)]) V.length (λi hk=>?_);refine gd ?_ ?_<;>intro hc7
  ·obtain⟨y,hy⟩:∃y,V[i]? =some y:=⟨_,lgg aa⟩;have hC:=h.k y (j6 hy);have v1:=zyP hy;have v0:(evN V i)[(i:Int).toNat]? =some (evU y y.u):=ao v1
   have k9:=zos V i;have hst7:(evN V i).set (i:Int).toNat (evA V i y)=evN V (i+1):=by rw[jN];exact ztO hy
   have k8:((evN V i).set (i:Int).toNat (evA V i y))[(i:Int).toNat]? =some (evA V i y):=List.getElem?_set_self aa;have hpi:=h.pf i;have hpi2:=h.pf (i+1);have h9:=zxl hy;have hsl7:((evN V i).set (i:Int).toNat (evA V i y)).length=V.length:=by rw[xW];exact k9
   apply yf;apply ye;apply kX;apply yc;(iterate 2 refine ya ?_);apply yp;(iterate 5 refine ya ?_);refine bF (hs:=y6 (n:=2) (evU y y.u) (evA V i y) rfl rfl v0 (λ_=>rfl) ac rfl rfl rfl ac rfl rfl rfl TyK.h) ?_;refine gq ?_;refine y4 [94,95,96,97,98,99,100,101,102,103] [0,0,0,6,14,30,63,127,255,255,511,2047] mo ?_;(iterate 5 refine yb ?_);refine yb ?_ (hs:=by exact zB (n:=2) (ys:=tmE (tq y.u)) rfl rfl k8 rfl rfl ac rfl ty35);refine yI (C_qadd (h.uq i) hC.uq h9.symm aa) ?_;(iterate 3 refine yb ?_);refine zar 9 ⟨[(4,.own 39),(13,.ptr 13 0 0 0),(15,iv 0),(85,iv (V.length:Int)),(86,iv (i:Int))],[(13,.box (tmE (tq (pf (usV V) (i+1)))) 35),(39,.row evE (evN V (i+1)) 62 10)]⟩ (λQ hQ=>?_) (λQ hQ=>?_) ?_
   ·refine bF ?_;refine ya ?_;exact yY kW hQ
   ·refine bF ?_;(iterate 2 refine ya ?_);exact yY kW hQ
   refine gd ?_ ?_<;>intro h8
   ·exact absurd rfl h8
   refine gq ?_;refine yr (i+1) (hI:=kW)
  ·obtain rfl:i=V.length:=aa
   have hE:=zBn V;apply bH;(iterate 2 apply ye);refine yl (st':=⟨[(4,.own 39)],[(39,.row evE (evL V) 62 10)]⟩) kW ?_;refine yl (kY (k:=39) rfl) ?_;refine gc (zbW V h) ?_;refine gd ?_ ?_<;>intro h5
   ·exact absurd rfl h5
   refine gq ?_;refine yn ?_ ?_;all_goals exact zR
end
section
variable{W:List (List Nu)}{i:Nat}
structure Sv where
 N:ByteArray
 K:List Bk
 B:List (List Sn)
def svE:Sv->List AV:=λv=>[.str v.N,.sl bkE v.K,.sl snsE v.B]
def strE:ByteArray->List AV:=λs=>[.str s]
instance:EncK svE 3:=⟨λ_=>rfl⟩
instance:Inhabited Sv:=⟨⟨⟨#[]⟩,[],[]⟩⟩
structure SvK(V:List Nu)(B:List (List Sn)):Prop where
 k:∃S,chP (usV V) S 0/\B.flatten.length=S.length/\(∀(j:Nat)(s:Sn),B.flatten[j]? =some s->∃x,S[j]? =some x/\SnK V x s)/\B.length<=1000000/\S.length<=1000000
def zBq{V:List Nu}{B:List (List Sn)}(h:VoK V)(hk:SvK V B):Fn prog 23 [.sl snsE B] (.tup [evsA (evL V),iv 0]):=by
 obtain⟨S,h1,Q,H,G,h5⟩:=hk.k;exact zhL V h S h1 B Q H G h5
structure BkK(b:Bk):Prop where
 k:1<=b.K/\b.K<=3
 f:0<=b.F/\b.F<=b.T
 t:b.T<400
def ztP{V:List Nu}(h:W[i]? =some V):(voL W).take i++[evL V]=(voL W).take (i+1):=by rw[jK,j9,h];rfl
attribute [local irreducible] evL nmQ bsB
def zk6(W:List (List Nu))(h:VsK W)(L:List Sv)(hl:L.length=W.length)(hK:∀(i:Nat)(V:List Nu)(v:Sv),W[i]? =some V->L[i]? =some v->SvK V v.B)(n q:Int):Fn prog 10 [.agg [iv n,iv q,.sl svE L]] (.tup [vosA (voL W),iv 0]):=by
 have xT:=h.l;have Q:(voL W).length=W.length:=jD ..;refine bB func10 ntmps10 (λg w d=>?_);refine gd ?_ ?_<;>intro x2
 ·omega
 apply yf;apply yc;refine yk ?_;iterate 2 apply ye
 refine yl (yz vosE 28 1 4 39 rfl rfl) ?_;apply yd;refine ya ?_;refine yo ?_;apply kX;have hz:[]=(voL W).take 0:=ah
 refine y9 [4,14,15] (λi zz=>(16,iv (i:Int))::zz) [] (λi zz=>(39,.row vosE ((voL W).take i) 28 1)::zz) L.length (λi hk=>?_);refine gd ?_ ?_<;>intro x1
 ·obtain⟨v,hv⟩:∃v,L[i]? =some v:=⟨_,lgg aa⟩;obtain⟨V,H⟩:∃V,W[i]? =some V:=⟨_,lgg aa⟩;have x0:L[(i:Int).toNat]? =some v:=ao hv
  have w2:=ztP H;have v9:((voL W).take i).length<=8:=by rw[jO];omega
  refine gc (zBq (h.k V (j6 H)) (hK i V v H hv)) ?_;refine gd ?_ ?_<;>intro G
  ·exact absurd rfl G
  refine gq ?_;refine yH vosE [evL V] ?_;refine gq ?_;refine yr (i+1) (hI:=kW)
 ·obtain rfl:i=L.length:=aa
  have hE:(voL W).take L.length=voL W:=by rw[hl,←Q,jR]
  apply bH;apply yc;refine yo ?_;refine bC ?_;refine yi (kY (k:=39) rfl) ?_;refine yn ?_ ?_;all_goals(first|rfl|exact jA vosA hE)
def zb4(l:List ByteArray)(x:ByteArray)(hn:∀y∈l,(x.toList==y.toList)=false)(hl:l.length<=1000000):Fn prog 138 [.sl strE l,.str x] (iv (-1)):=by
 refine bB func138 ntmps138 (λg w d=>?_);apply yc;refine yk ?_;apply ye;apply yc;refine yo ?_;apply kX;refine y9 [0,1,6,7] (λk zz=>(8,iv (k:Int))::zz) [] (λ_ zz=>zz) l.length (λk hk=>?_);refine gd ?_ ?_<;>intro xT
 ·have G:=@getX _ l k aa;obtain⟨y,hy,x2⟩:=G;have H:=hn y (j6 hy);apply yf;apply ye;apply kX;apply yc;iterate 2 refine ya ?_
  apply yp;iterate 5 refine ya ?_
  refine ya (hs:=by exact zqb rfl rfl) ?_;refine gd ?_ ?_<;>intro Q
  ·(first|exact absurd Q (by simp[H])|(rw[H]at Q;cases Q)|simp_all)
  refine gq ?_;refine yr (k+1) (hI:=kW)
 ·refine gq ?_;all_goals exact zR
def zbL(l:List ByteArray)(x:ByteArray)(hn:∀y∈l,(x.toList==y.toList)=false)(hl:l.length<=1000000):Fn prog 93 [.sl strE l,.str x] (.bool false):=by
 refine bB func93 ntmps93 (λg w d=>?_);refine gc (zb4 l x hn hl) ?_;all_goals rfl
def zjP(l:List ByteArray)(hl:l.length<=8)(hn:∀s∈l,nmQ (bsB s)=true/\s.size<=1000000)(hd:∀(i:Nat)(x:ByteArray),l[i]? =some x->∀y∈l.take i,(x.toList==y.toList)=false):Fn prog 46 [.sl strE l] (iv 0):=by
 refine bB func46 ntmps46 (λg w d=>?_);apply yc;refine yk ?_;apply ye;apply yc;refine yo ?_;apply kX;refine y9 [0,5,6] (λi zz=>(7,iv (i:Int))::zz) [] (λ_ zz=>zz) l.length (λi hk=>?_);refine gd ?_ ?_<;>intro x1
 ·have H:=@getX _ l i aa;obtain⟨s,hs,x0⟩:=H;have Q:=hn s (j6 hs);have G:∀y∈l.take (i:Int).toNat,(s.toList==y.toList)=false:=by rw[jN];exact hd i s hs
  refine gc (zge s Q.2) ?_;refine gd ?_ ?_<;>intro xT
  ·exact absurd Q.1 (by simp[xT])
  refine gq ?_
  first
   |refine yO (zdT rfl rfl rfl sl88 ty9 aa aa) rfl ?_
   |refine yO (zhD rfl rfl sl88 ty9 (λ_=>rfl) aa aa) rfl ?_
  refine gc (zbL (l.take (i:Int).toNat) s G (by rw[jO];omega)) ?_;refine gd ?_ ?_<;>intro x2
  ·cases x2
  refine gq ?_;refine yr (i+1) (hI:=kW)
 ·refine gq ?_;all_goals exact zR
def zfT(L:List (List Bk))(hl:L.length<=8)(hf:L.flatten.length<=1000000)(G:∀b∈L.flatten,BkK b):Fn prog 47 [.sl bksE L] (iv 0):=by
 refine bB func47 ntmps47 (λg w d=>?_);refine gq ?_;refine zf (zaN L aa hf) ?_;refine yC ?_;apply kX;refine y9 [6,7] (λi zz=>(8,iv (i:Int))::zz) [] (λ_ zz=>zz) L.flatten.length (λi hk=>?_);refine gd ?_ ?_<;>intro xT
 ·have Q:=@getX _ L.flatten i aa;obtain⟨b,hb,x2⟩:=Q;have H:=G b (j6 hb);obtain⟨b1,b2,b3⟩:=H;apply yf;apply ye;apply kX;apply yc;iterate 2 refine ya ?_
  refine yP ?_;refine bF ?_;apply bD;apply ye;apply yc;iterate 3 refine ya ?_
  refine bI 3 ?_;refine yw ?_;iterate 3 refine bE ?_
  refine gf ?_ ?_<;>intro x1
  ·omega
  apply yf;apply yc;iterate 3 refine ya ?_
  refine bI 3 ?_;refine yw ?_;iterate 5 refine bE ?_
  iterate 2 refine yw ?_
  iterate 3 refine bE ?_
  refine gf ?_ ?_<;>intro x0
  ·omega
  refine gq ?_;refine yr (i+1) (hI:=kW)
 ·refine gq ?_;all_goals exact zR
end
end Go.Rse
namespace Go.Rse
open Go Go.RowKit Go.Proofs Go.Proofs.Tryz
variable{E K:TypeId}{P:Program}
abbrev prE:Int×Int->AV:=λp=>.agg [iv p.1,iv p.2]
def prV(p:Int×Int):Value:=.agg #[.int .i64 p.1,.int .i64 p.2]
def chkA{a b:Int}(em:Bool)(w:World)(G:P.underlying K=some (.array 2 E))(H:P.plainKey E=true)(hs:tyOk P E false 1=true)(u:P.underlying E=some (.int .i64)):
 (Instr.checkKey em 10000 K (.agg #[.int .i64 a,.int .i64 b])).run P w=.ok () w:=by
 show(Instr.checkKey em (9998+1+1) K _).run P w=_;have k1:∀a,(Instr.checkKey em (9998+1) E (.int .i64 a)).run P w=.ok () w:=λa=>MapKept.run_checkKey u (show MapKept.IsKey (.int .i64) (.int .i64 a)from rfl) em 9998
 have q1:(part E #[.int .i64 a,.int .i64 b] 0).run P w=.ok (.int .i64 a) w:=run_part_plain w H rfl;have q2:(part E #[.int .i64 a,.int .i64 b] 1).run P w=.ok (.int .i64 b) w:=run_part_plain w H rfl;have Q:∀w:World,(sizeOf E).run P w=.ok 1 w:=yJ hs;rw[Instr.checkKey];simp only[jM,run_underlying G,jH];simp only[Std.Legacy.Range.forIn_eq_forIn_range',Std.Legacy.Range.size,vY,Nat.add_sub_cancel,Nat.div_one,xJ,List.range'_zero,List.forIn_cons,List.forIn_nil,jM,Q,jH,xM,u6,vX,q1,q2,k1,jP]
def zwR(h:∃f1 f2:Field,P.underlying K=some (.struct #[f1,f2])/\f1.name≠ "_" /\f2.name≠ "_" /\P.plainKey f1.type=true/\P.plainKey f2.type=true/\f1.offset=0/\f2.offset=1/\P.underlying f1.type=some (.int .i64)/\P.underlying f2.type=some (.int .i64))(em:Bool)(w:World)(a b:Int):
 (Instr.checkKey em 10000 K (.agg #[.int .i64 a,.int .i64 b])).run P w=.ok () w:=by
 obtain⟨f1,f2,h1,Q,H,G,h5,h6,h7,h8,h9⟩:=h;exact chk2 em w h1 Q H G h5 h6 h7 h8 h9
def eqA(w:World)(G:P.underlying K=some (.array 2 E))(H:P.plainKey E=true)(hs:tyOk P E false 1=true)(u:P.underlying E=some (.int .i64))(x y:Int×Int):(Op.equal K (prV x) (prV y)).run P w=.ok (decide (x=y)) w:=by
 obtain⟨a,b⟩:=x;obtain⟨c,d⟩:=y;have q1:∀a b:Int,(part E #[.int .i64 a,.int .i64 b] 0).run P w=.ok (.int .i64 a) w:=λa b=>run_part_plain w H rfl
 have q2:∀a b:Int,(part E #[.int .i64 a,.int .i64 b] 1).run P w=.ok (.int .i64 b) w:=λa b=>run_part_plain w H rfl
 have Q:∀w:World,(sizeOf E).run P w=.ok 1 w:=yJ hs
 have k1:∀a c:Int,(Op.equalIn (9998+1) E (.int .i64 a) (.int .i64 c)).run P w=.ok (decide (a=c)) w:=λa c=>by
  rw[Op.equalIn];by_cases h:a=c<;>simp[run_underlying u,h]
 unfold Op.equal;rw[show Op.maxDepth=9998+1+1 from rfl,prV,prV,Op.equalIn];simp only[jM,run_underlying G,jH];simp only[Std.Legacy.Range.forIn_eq_forIn_range',Std.Legacy.Range.size,vY,Nat.add_sub_cancel,Nat.div_one,xJ,List.range'_zero,List.forIn_cons,List.forIn_nil,jM,Q,jH,xM,u6,vX,q1,q2,k1,jP];by_cases h1:a=c<;>by_cases h2:b=d<;>simp[h1,h2,Q,q1,q2,k1]
def zqM(x y:Int×Int):eqL [iv x.1,iv x.2] [iv y.1,iv y.2]=some (decide (x=y)):=by
 obtain⟨a,b⟩:=x;obtain⟨c,d⟩:=y;refine(yZ rfl (yZ rfl rfl)).trans ?_;simp only[Prod.mk.injEq,Bool.decide_and,Bool.and_true]
def pr_key(chk:∀(em:Bool)(w:World)(x:Int×Int),(Instr.checkKey em 10000 K (prV x)).run P w=.ok () w)(wide:(match P.underlying K with|some (.array _ _)|some (.struct _)=>true|_=>false)=true)
 (eq:∀(w:World)(x y:Int×Int),(Op.equal K (prV x) (prV y)).run P w=.ok (decide (x=y)) w):KeyL P K prE prV where
 val:=λI ρ x v h=>by
  obtain⟨vs,rfl,hl,Q⟩:=zaM h
  match vs,hl with
  |[a,b],_=>
   have h1:=yK (Q 0 _ a rfl rfl);have G:=yK (Q 1 _ b rfl rfl);subst h1;subst G;rfl
 of:=λI ρ x=>.agg _ [.int .i64 x.1,.int .i64 x.2] rfl λj c v H Q=>by
  rcases j with _|_|j
  ·simp at H Q;subst H;subst Q;exact .int _ _
  ·simp at H Q;subst H;subst Q;exact .int _ _
  ·simp at H
 chk:=chk
 wide:=wide
 eq:=eq
 stay:=λw x=>by simp[Instr.keyThatStays,Instr.sameBits,prV]
def zqN(x:Int×Int):RVL (λ_ _=>none) noNames [iv x.1,iv x.2] [.int .i64 x.1,.int .i64 x.2]:=⟨rfl,λj c v Q H=>by
 rcases j with _|_|j
 ·simp at Q H;subst Q;subst H;exact .int _ _
 ·simp at Q H;subst Q;subst H;exact .int _ _
 ·simp at Q⟩
def zqO:KeyL prog 161 prE prV:=
 pr_key (λem w x=>chkA em w Tryz.underlying161 ae ae ae) ae λw x y=>eqA w Tryz.underlying161 ae ae ae x y
def zk7:KeyL prog 333 prE prV:=
 pr_key (λem w x=>zwR ⟨_,_,Tryz.underlying333,ac,ac,ae,ae,rfl,rfl,ae,ae⟩ em w x.1 x.2) ae λw x y=>
  run_equal_cells (P:=prog) (t:=333) (d:=2) (w:=w) (I:=λ_ _=>none) (ρ:=noNames) (xs:=[iv x.1,iv x.2]) (ys:=[iv y.1,iv y.2]) (vs:=[.int .i64 x.1,.int .i64 x.2]) (us:=[.int .i64 y.1,.int .i64 y.2]) ae ac (zqN x) (zqN y) ae ae ae (b:=decide (x=y)) (zqM x y)
end Go.Rse
