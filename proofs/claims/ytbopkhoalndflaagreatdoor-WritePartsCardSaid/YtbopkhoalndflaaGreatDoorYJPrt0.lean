/-
  Plain.
-/
import Derived.Test.YtbopkhoalndflaaGreatDoorYJRun4
set_option linter.all false
namespace Go.Rse
open Go Go.Proofs Go.Proofs.Tryz
section
def msS(m:Mn):Sg:=⟨5,0,0,0,false,0,false,false,m,false,0,0,0,0⟩
def ptK(m:Mn)(h:Hb):List (List Bt)->List Sg->List Sg->List Bt->Int×List Sg
 |[],S,R,B=>(0,S)
 |b::r,S,R,B=>
  if wcnE m b h=0 then
   match srV m (durB (B++b)) (chV m b h) R with
   |some x=>ptK m h r (S++x.drop R.length) x (B++b)
   |none=>match srV m (durB b) (chV m b h) []with
    |some x=>ptK m h r ((S++[msS m])++x) x b
    |none=>(18,[])
  else(wcnE m b h,[])
def ptS(m:Mn)(h:Hb)(L:List (List Bt)):Nat->List Sg×List Sg×List Bt
 |0=>([msS m],[],[])
 |k+1=>
  match srV m (durB ((ptS m h L k).2.2++L.getD k [])) (chV m (L.getD k []) h) (ptS m h L k).2.1 with
  |some x=>((ptS m h L k).1++x.drop (ptS m h L k).2.1.length,x,(ptS m h L k).2.2++L.getD k [])
  |none=>(((ptS m h L k).1++[msS m])++(srV m (durB (L.getD k [])) (chV m (L.getD k []) h) []).getD [],(srV m (durB (L.getD k [])) (chV m (L.getD k []) h) []).getD [],L.getD k [])
structure PtJ(m:Mn)(h:Hb)(L:List (List Bt))(k:Nat):Prop where
 e:ptK m h L [msS m] [] []=ptK m h (L.drop k) (ptS m h L k).1 (ptS m h L k).2.1 (ptS m h L k).2.2
 r:(ptS m h L k).2.1.length<=2*(ptS m h L k).2.2.length
 b:(ptS m h L k).2.2.length<=(L.take k).flatten.length
 s:(ptS m h L k).1.length<=1+k+2*(L.take k).flatten.length
def zuB(m:Mn)(h:Hb)(L:List (List Bt)):PtJ m h L 0:=⟨rfl,jD _,jD _,by simp[ptS]⟩
def zg8{L:List (List Bt)}{k:Nat}{b:List Bt}(Z:L[k]? =some b):L.drop k=b::L.drop (k+1)/\L.getD k []=b/\(L.take (k+1)).flatten=(L.take k).flatten++b:=by
 have V:=j1.1 Z;refine⟨by rw[jG V.1,V.2],by rw[j8,Z];rfl,?_⟩;rw[jF,Z];simp
def zg9{m:Mn}{D:List Tm}{b:List Bt}{h:Hb}{R x:List Sg}(e:srV m D (chV m b h) R=some x):R.length+b.length<=x.length/\x.length<=R.length+2*b.length:=by
 have:=zhZ (n:=2) (λF Z f hf=>zmd F Z f hf) e;have V:(chV m b h).length=b.length:=by unfold chV;rw[jX]
 rw[V]at this;exact this
section
variable{m:Mn}{h:Hb}{L:List (List Bt)}{k:Nat}{b:List Bt}
def zqc(Z:L[k]? =some b){x:List Sg}(hx:srV m (durB ((ptS m h L k).2.2++b)) (chV m b h) (ptS m h L k).2.1=some x):ptS m h L (k+1)=((ptS m h L k).1++x.drop (ptS m h L k).2.1.length,x,(ptS m h L k).2.2++b):=by
 rw[ptS,(zg8 Z).2.1,hx]
def zqd(Z:L[k]? =some b)(h0:srV m (durB ((ptS m h L k).2.2++b)) (chV m b h) (ptS m h L k).2.1=none){x:List Sg}(hx:srV m (durB b) (chV m b h) []=some x):ptS m h L (k+1)=(((ptS m h L k).1++[msS m])++x,x,b):=by
 rw[ptS,(zg8 Z).2.1,h0,hx];rfl
def PtJ.err(Z:PtJ m h L k)(V:L[k]? =some b)(c:¬wcnE m b h=0):ptK m h L [msS m] [] []=(wcnE m b h,[]):=by
 rw[Z.e,(zg8 V).1,ptK,j4 c]
def PtJ.no(Z:PtJ m h L k)(V:L[k]? =some b)(c:wcnE m b h=0)(h0:srV m (durB ((ptS m h L k).2.2++b)) (chV m b h) (ptS m h L k).2.1=none)(U:srV m (durB b) (chV m b h) []=none):ptK m h L [msS m] [] []=(18,[]):=by
 rw[Z.e,(zg8 V).1,ptK,j3 c,h0,U]
def PtJ.s1(Z:PtJ m h L k)(V:L[k]? =some b)(c:wcnE m b h=0){x:List Sg}(hx:srV m (durB ((ptS m h L k).2.2++b)) (chV m b h) (ptS m h L k).2.1=some x):PtJ m h L (k+1):=by
 have e:=zqc V hx;have hr:=zg9 hx;have U:=Z.e;have T:=Z.r;have Q:=Z.b;have N:=Z.s;rw[(zg8 V).1,ptK,j3 c,hx]at U;refine⟨by rw[U,e],?_,?_,?_⟩
 ·rw[e];simp only[jE];omega
 ·rw[e,(zg8 V).2.2];simp only[jE];omega
 ·rw[e,(zg8 V).2.2];simp only[jE,wM];omega
def PtJ.s2(Z:PtJ m h L k)(V:L[k]? =some b)(c:wcnE m b h=0)(h0:srV m (durB ((ptS m h L k).2.2++b)) (chV m b h) (ptS m h L k).2.1=none){x:List Sg}(hx:srV m (durB b) (chV m b h) []=some x):PtJ m h L (k+1):=by
 have e:=zqd V h0 hx;have hr:=zg9 hx;have U:=Z.e;have T:=Z.r;have Q:=Z.b;have N:=Z.s;rw[(zg8 V).1,ptK,j3 c,h0,hx]at U;refine⟨by rw[U,e],?_,?_,?_⟩
 ·rw[e];simp only[wK]at hr⊢;omega
 ·rw[e,(zg8 V).2.2];simp only[jE];omega
 ·rw[e,(zg8 V).2.2];simp only[jE,xH,wK]at hr⊢;omega
def PtJ.fin(Z:PtJ m h L L.length):ptK m h L [msS m] [] []=(0,(ptS m h L L.length).1):=by
 rw[Z.e,wQ,ptK]
end
def zmT{u:Tm}:∀(l:List Bt)(s:Tm)(K:List Bt),(∀b∈bkV u s K l,1<=b.length)/\(bkV u s K l).flatten=K++l
 |[],s,K=>by
  unfold bkV;split
  ·rename_i h;subst h;simp
  ·rename_i h;refine⟨λb V=>?_,by simp⟩;rw[vK]at V;subst V;exact uS.2 h
 |b::r,s,K=>by
  unfold bkV;split
  ·have ih:=zmT (u:=u) r ⟨0,1⟩ [];refine⟨λc Z=>?_,by rw[List.flatten_cons,ih.2];simp⟩;rcases jZ.1 Z with rfl|Z
   ·simp
   ·exact ih.1 c Z
  ·have ih:=zmT (u:=u) r (addV s b.Dur) (K++[b]);exact⟨ih.1,by rw[ih.2];simp⟩
def zit{m:Mn}{l:List Bt}(e:blE m l=0):(∀b∈blV m l,1<=b.length)/\(blV m l).flatten=l:=by
 unfold blV;rw[j3 e];have:=zmT (u:=meU m) l ⟨0,1⟩ [];exact⟨this.1,this.2⟩
def zkJ:∀{L:List (List Bt)},(∀b∈L,1<=b.length)->L.length<=L.flatten.length
 |[],_=>by simp
 |b::r,h=>by
  have V:=h b (by simp);have U:=zkJ (L:=r) λc Z=>h c (wZ _ Z)
  rw[List.flatten_cons,jE,wH];omega
def zl0{L:List (List Bt)}{l:List Bt}(h:L.flatten=l)(k:Nat):(L.take k).flatten.length<=l.length:=by
 have:(L.take k).flatten++(L.drop k).flatten=l:=by rw[←List.flatten_append,wD,h]
 rw[←this,jE];omega
def paQ(m:Mn)(l:List Bt)(h:Hb):Int×List Sg:=ptK m h (blV m l) [msS m] [] []
def paE(s:ByteArray)(m:Mn)(l:List Bt)(h:Hb):Int:=if nmQ (bsB s)=true then(if blE m l=0 then(if l.length<=60 then(if(paQ m l h).1=0 then(if(paQ m l h).2.length<=400 then 0 else 11)else(paQ m l h).1)else 11)else blE m l)else 7
def paN(s:ByteArray)(m:Mn)(l:List Bt)(h:Hb):ByteArray:=if paE s m l h=0 then s else⟨#[]⟩
def paV(s:ByteArray)(m:Mn)(l:List Bt)(h:Hb):List Sg:=if paE s m l h=0 then(paQ m l h).2 else[]
section
variable{s:ByteArray}{m:Mn}{l:List Bt}{h:Hb}
def zhG(c:¬paE s m l h=0):paN s m l h=⟨#[]⟩/\paV s m l h=[]:=by
 unfold paN paV;rw[j4 c,j4 c];exact⟨rfl,rfl⟩
def zx5(c:nmQ (bsB s)=false):paE s m l h=7:=by unfold paE;rw[c];rfl
def zx6(c:nmQ (bsB s)=true)(c2:¬blE m l=0):paE s m l h=blE m l:=by unfold paE;rw[j3 c,j4 c2]
def zx7(c:nmQ (bsB s)=true)(c2:blE m l=0)(c3:60<l.length):paE s m l h=11:=by unfold paE;rw[j3 c,j3 c2,j4 (by omega)]
def zso(c:nmQ (bsB s)=true)(c2:blE m l=0)(c3:l.length<=60){e:Int}{S:List Sg}(c4:ptK m h (blV m l) [msS m] [] []=(e,S))(he:¬e=0):paE s m l h=e:=by
 have:(paQ m l h).1=e:=by unfold paQ;rw[c4]
 unfold paE;rw[j3 c,j3 c2,j3 c3,this,j4 he]
def zx8(c:nmQ (bsB s)=true)(c2:blE m l=0)(c3:l.length<=60){S:List Sg}(c4:ptK m h (blV m l) [msS m] [] []=(0,S))(he:400<S.length):paE s m l h=11:=by
 have Z:(paQ m l h).1=0:=by unfold paQ;rw[c4]
 have V:(paQ m l h).2=S:=by unfold paQ;rw[c4]
 unfold paE;rw[j3 c,j3 c2,j3 c3,j3 Z,V,j4 (by omega)]
def zx9(c:nmQ (bsB s)=true)(c2:blE m l=0)(c3:l.length<=60){S:List Sg}(c4:ptK m h (blV m l) [msS m] [] []=(0,S))(he:S.length<=400):paE s m l h=0/\paN s m l h=s/\paV s m l h=S:=by
 have V:(paQ m l h).1=0:=by unfold paQ;rw[c4]
 have Z:(paQ m l h).2=S:=by unfold paQ;rw[c4]
 have e:paE s m l h=0:=by unfold paE;rw[j3 c,j3 c2,j3 c3,j3 V,Z,j3 he]
 refine⟨e,by unfold paN;rw[j3 e],by unfold paV;rw[j3 e,Z]⟩
end
end
section
attribute [local irreducible] Pur yA yC Ex X Fn Imp LeV LeB FnO It yH FnW FnOW FnP FnD
attribute [local irreducible] wcE blE blV pmJ meU brS addE addV yx
set_option maxHeartbeats 1000000 in
def zeh(m:Mn)(hm:ckM m=0):Fn prog 107 [mnA m] (tmA (meU m)):=by
 have Q:(3:Int)=pmJ m 0:=by unfold pmJ;rfl
 have V:=zwo hm;obtain⟨e1,e2,e3⟩:=V;have U:Fn prog 150 [mnA m,iv (pmJ m 4)] (.tup [tmA (meU m),iv 0]):=by rw[e1,←zsM m];exact zy hm e2 (by omega)
 refine kF func107 ntmps107 (λg w d=>?_);apply ye;refine zH ?_;refine zk ?_;apply yG;refine yh ?_;apply yf;apply ye;refine yh ?_;apply kB;refine zu (λj=>[(1,.ptr 1 0 0 0),(2,.ptr 2 0 0 0),(3,iv (pmJ m j)),(4,iv (4-(j:Int)))]) (λj=>[(1,.box (mnE m) 23),(2,.box [iv 0,iv 0] 83)]) 4 (λj J=>?_);refine gd ?_ ?_<;>intro N
 ·refine gc (yX m (4-(j:Int))) ?_;refine gd ?_ ?_<;>intro Z
  ·have T:=zyM Z;refine gq ?_;refine yz (j+1) (hI:=yi)
  ·have T:=zyN Z;refine gq ?_;refine yz (j+1) (hI:=yi)
 ·obtain rfl:j=4:=by omega
  refine gc U ?_;refine kL (.one (.cellA rfl rfl rfl rfl ty83 (kC ?_)));all_goals rfl
set_option maxHeartbeats 8000000 in
def zaK(m:Mn)(l:List Bt)(hl:l.length<=1000000):Fn prog 49 [mnA m,btsA l] (.tup [blsA (blV m l),iv (blE m l)]):=by
 have v9:[]=(brS (meU m) l 0).2.2:=by unfold brS;rfl
 have v8:[]=(brS (meU m) l 0).2.1:=by unfold brS;rfl
 have v5:tmE ⟨0,1⟩=tmE (brS (meU m) l 0).1:=by unfold brS;rfl
 refine kF func49 ntmps49 (λg w d=>?_);refine gc (za1 m l (by omega)) ?_;refine gd ?_ ?_<;>intro G
 ·have E:=zyC G;obtain⟨hE,Z⟩:=E;apply ye;refine yE ?_;refine kE ?_;refine kA (yd (ts:=[(4,blsA []),(5,iv (wcE m l))]) (hs:=[])) ?_;refine ym ?_ ?_;all_goals(first|exact zE hE|exact zE Z|exact j5 (λz=>blsA z) Z|exact j5 (AV.int .i64) hE.symm)
 have h0:wcE m l=0:=by omega
 have hM:ckM m=0:=by apply wI;intro I;rw[zs4 I]at h0;exact I h0
 have xT:=zuS hM;obtain⟨u1,u2,u3,u4⟩:=xT;apply yk;apply ye;refine yh ?_;apply yf;refine kJ (yI btsE 24 1 7 30 rfl rfl) ?_;apply yj;refine yh ?_;apply yf;refine kJ (yI btE 100 3 8 31 rfl rfl) ?_;apply yj;refine ya ?_;refine zk ?_;refine kK ?_;apply kQ;apply yf;apply ye;refine yh ?_;apply kB;refine zM (λk=>[(1,btsA l),(2,.ptr 2 0 0 0),(7,.own 30),(8,.own 31),(9,.ptr 9 0 0 0),(10,iv (k:Int))]) (λk=>[(2,.box (mnE m) 23),(9,.box (tmE (brS (meU m) l k).1) 83),(30,.row btsE (brS (meU m) l k).2.2 24 1),(31,.row btE (brS (meU m) l k).2.1 100 3)]) (λk=>k<=l.length/\BrJ (meU m) l k) l.length (λk hk=>?_) (hJ:=by exact⟨w7 _,zyO _ _⟩);obtain⟨k1,k2⟩:=hk;refine gd ?_ ?_<;>intro v4
 ·obtain⟨b,T⟩:∃b,l[k]? =some b:=⟨_,lgg (by omega)⟩;have v3:l[(k:Int).toNat]? =some b:=by simpa using T
  have I:=k2.n;refine gq ?_;refine kW [⟨0,28,tmA (brS (meU m) l k).1,[]⟩,⟨1,29,btsA l,[]⟩,⟨2,30,iv (k:Int),[]⟩,⟨3,31,.ept btE b 0,[2,1]⟩,⟨4,32,.ept btE b (0+0),[2,1,3]⟩,⟨5,33,tmA b.Dur,[2,1,3,4]⟩,⟨6,34,.tup [tmA (addV (brS (meU m) l k).1 b.Dur),iv (addE (brS (meU m) l k).1 b.Dur)],[2,1,3,4,5,0]⟩,⟨7,27,.tup [tmA (addV (brS (meU m) l k).1 b.Dur),iv (addE (brS (meU m) l k).1 b.Dur)],[2,1,3,4,5,0,6]⟩,⟨8,35,tmA (addV (brS (meU m) l k).1 b.Dur),[2,1,3,4,5,0,6,7]⟩,⟨9,36,iv (addE (brS (meU m) l k).1 b.Dur),[2,1,3,4,5,0,6,7]⟩] [(10,[]),(11,[7,5,4,3,2,1,0,6,8,10]),(12,[10,8,7,6,5,4,3,2,1,0,11,9])] (λj=>match j with|0=>⟨[(1,btsA l),(2,.ptr 2 0 0 0),(7,.own 30),(8,.own 31),(9,.ptr 9 0 0 0),(10,iv (k:Int))],[(2,.box (mnE m) 23),(9,.box (tmE (brS (meU m) l k).1) 83),(30,.row btsE (brS (meU m) l k).2.2 24 1),(31,.row btE (brS (meU m) l k).2.1 100 3)]⟩|1=>⟨[(1,btsA l),(2,.ptr 2 0 0 0),(7,.own 30),(8,.own 31),(9,.ptr 9 0 0 0),(10,iv (k:Int)),(11,.ptr 11 0 0 0)],[(2,.box (mnE m) 23),(9,.box (tmE (brS (meU m) l k).1) 83),(30,.row btsE (brS (meU m) l k).2.2 24 1),(31,.row btE (brS (meU m) l k).2.1 100 3),(11,.box [iv 0,iv 0] 83)]⟩|2=>⟨[(1,btsA l),(2,.ptr 2 0 0 0),(7,.own 30),(8,.own 31),(9,.ptr 9 0 0 0),(10,iv (k:Int)),(11,.ptr 11 0 0 0)],[(2,.box (mnE m) 23),(9,.box (tmE (brS (meU m) l k).1) 83),(30,.row btsE (brS (meU m) l k).2.2 24 1),(31,.row btE (brS (meU m) l k).2.1 100 3),(11,.box (tmE (addV (brS (meU m) l k).1 b.Dur)) 83)]⟩|_=>⟨[(1,btsA l),(2,.ptr 2 0 0 0),(7,.own 30),(8,.own 31),(9,.ptr 9 0 0 0),(10,iv (k:Int)),(11,.ptr 11 0 0 0),(12,iv (addE (brS (meU m) l k).1 b.Dur))],[(2,.box (mnE m) 23),(9,.box (tmE (brS (meU m) l k).1) 83),(30,.row btsE (brS (meU m) l k).2.2 24 1),(31,.row btE (brS (meU m) l k).2.1 100 3),(11,.box (tmE (addV (brS (meU m) l k).1 b.Dur)) 83)]⟩) mo (by kernel_rfl) (zg (yd)) (λj hj=>?_) (λj c H β hβ=>?_) ?_
  ·rcases j with _|_|_|_|j
   ·(iterate 6 refine⟨.inr ⟨_,rfl,rfl,rfl,rfl,k8 yJ⟩,?_⟩);refine⟨.inr ⟨_,rfl,rfl,rfl,rfl,zT rfl rfl rfl (kS _) (yZ (brS (meU m) l k).1 b.Dur)⟩,?_⟩;exact yw
   ·(iterate 6 refine⟨.inr ⟨_,rfl,rfl,rfl,rfl,k8 yJ⟩,?_⟩);refine⟨.inr ⟨_,rfl,rfl,rfl,rfl,zT rfl rfl rfl (kS _) (yZ (brS (meU m) l k).1 b.Dur)⟩,?_⟩;exact yw
   ·exact yw
   ·exact yw
   ·exact absurd (show j+4<=3 from hj) (by omega)
  ·rcases j with _|_|_|j
   ·obtain rfl:(10,[])=c:=by injection H
    refine yo rfl (yn (st0:=⟨[(28,.ifb (β 0) (tmA (brS (meU m) l k).1)),(29,.ifb (β 1) (btsA l)),(30,.ifb (β 2) (iv (k:Int))),(31,.ifb (β 3) (.ept btE b 0)),(32,.ifb (β 4) (.ept btE b (0+0))),(33,.ifb (β 5) (tmA b.Dur)),(34,.ifb (β 6) (.tup [tmA (addV (brS (meU m) l k).1 b.Dur),iv (addE (brS (meU m) l k).1 b.Dur)])),(27,.ifb (β 7) (.tup [tmA (addV (brS (meU m) l k).1 b.Dur),iv (addE (brS (meU m) l k).1 b.Dur)])),(35,.ifb (β 8) (tmA (addV (brS (meU m) l k).1 b.Dur))),(36,.ifb (β 9) (iv (addE (brS (meU m) l k).1 b.Dur))),(1,btsA l),(2,.ptr 2 0 0 0),(7,.own 30),(8,.own 31),(9,.ptr 9 0 0 0),(10,iv (k:Int))],[(2,.box (mnE m) 23),(9,.box (tmE (brS (meU m) l k).1) 83),(30,.row btsE (brS (meU m) l k).2.2 24 1),(31,.row btE (brS (meU m) l k).2.1 100 3)]⟩) (yl) ?_);refine yC.imp (yK (zx (k:=11) zc83) rfl rfl) (yl)
   ·obtain rfl:(11,[7,5,4,3,2,1,0,6,8,10])=c:=by injection H
    refine yo rfl (yn (st0:=⟨[(28,tmA (brS (meU m) l k).1),(29,btsA l),(30,iv (k:Int)),(31,.ept btE b 0),(32,.ept btE b (0+0)),(33,tmA b.Dur),(34,.tup [tmA (addV (brS (meU m) l k).1 b.Dur),iv (addE (brS (meU m) l k).1 b.Dur)]),(27,.tup [tmA (addV (brS (meU m) l k).1 b.Dur),iv (addE (brS (meU m) l k).1 b.Dur)]),(35,tmA (addV (brS (meU m) l k).1 b.Dur)),(36,.ifb (β 9) (iv (addE (brS (meU m) l k).1 b.Dur))),(1,btsA l),(2,.ptr 2 0 0 0),(7,.own 30),(8,.own 31),(9,.ptr 9 0 0 0),(10,iv (k:Int)),(11,.ptr 11 0 0 0)],[(2,.box (mnE m) 23),(9,.box (tmE (brS (meU m) l k).1) 83),(30,.row btsE (brS (meU m) l k).2.2 24 1),(31,.row btE (brS (meU m) l k).2.1 100 3),(11,.box [iv 0,iv 0] 83)]⟩) (yl) ?_);refine yC.imp (zcb rfl rfl rfl rfl ty83 rfl (leB rfl)) (yl)
   ·obtain rfl:(12,[10,8,7,6,5,4,3,2,1,0,11,9])=c:=by injection H
    refine yo rfl (yn (st0:=⟨[(28,tmA (brS (meU m) l k).1),(29,btsA l),(30,iv (k:Int)),(31,.ept btE b 0),(32,.ept btE b (0+0)),(33,tmA b.Dur),(34,.tup [tmA (addV (brS (meU m) l k).1 b.Dur),iv (addE (brS (meU m) l k).1 b.Dur)]),(27,.tup [tmA (addV (brS (meU m) l k).1 b.Dur),iv (addE (brS (meU m) l k).1 b.Dur)]),(35,tmA (addV (brS (meU m) l k).1 b.Dur)),(36,iv (addE (brS (meU m) l k).1 b.Dur)),(1,btsA l),(2,.ptr 2 0 0 0),(7,.own 30),(8,.own 31),(9,.ptr 9 0 0 0),(10,iv (k:Int)),(11,.ptr 11 0 0 0)],[(2,.box (mnE m) 23),(9,.box (tmE (brS (meU m) l k).1) 83),(30,.row btsE (brS (meU m) l k).2.2 24 1),(31,.row btE (brS (meU m) l k).2.1 100 3),(11,.box (tmE (addV (brS (meU m) l k).1 b.Dur)) 83)]⟩) (yl) ?_);refine yC.imp (yK (k8 (za6 rfl)) rfl rfl) (yl)
   ·exact absurd H (by simp)
  refine gd ?_ ?_<;>intro x4
  ·have x3:=zBB h0 k2 T x4;obtain⟨hE,Z⟩:=x3;apply ye;refine yE ?_;refine kE ?_;refine kA (yd (ts:=[(4,blsA []),(5,iv (addE (brS (meU m) l k).1 b.Dur))]) (hs:=[])) ?_;refine ym ?_ ?_;all_goals(first|exact zE hE|exact zE Z|exact j5 (λz=>blsA z) Z|exact j5 (AV.int .i64) hE.symm)
  have ha:addE (brS (meU m) l k).1 b.Dur=0:=by omega
  have x2:=znC ha;obtain⟨a1,a2,a3⟩:=x2;have hw:=zwn hM a3;have v1:=z7 a3;have Q:=k2.s T ha;refine gq ?_;refine yD btE [b] ?_;refine gq ?_;refine yP (zeh m hM) ?_;refine zk ?_;refine kK ?_;apply kQ;apply yf;refine kJ (st':=⟨[(1,btsA l),(2,.ptr 2 0 0 0),(7,.own 30),(8,.own 31),(9,.ptr 9 0 0 0),(10,iv (k:Int)),(13,.ptr 13 0 0 0)],[(2,.box (mnE m) 23),(9,.box (tmE (addV (brS (meU m) l k).1 b.Dur)) 83),(30,.row btsE (brS (meU m) l k).2.2 24 1),(31,.row btE ((brS (meU m) l k).2.1++[b]) 100 3),(13,.box (tmE (meU m)) 83)]⟩) yi ?_;apply yj;iterate 3 refine ya ?_
  refine kI 3 ?_;refine yp ?_;iterate 6 refine kG ?_
  refine gf ?_ ?_<;>intro V
  ·have U:whB (meU m) (addV (brS (meU m) l k).1 b.Dur)=true:=by rw[hw,jJ V.1,jJ V.2];rfl
   have x1:=zBz T U;obtain⟨g1,g2,g3⟩:=x1;apply yf;refine kJ (k9 (k:=31) rfl) ?_;refine gq ?_;refine yD btsE [(brS (meU m) l k).2.1++[b]] ?_;refine kK ?_;refine ya ?_;apply yG;refine yh ?_;refine kJ (st':=⟨[(1,btsA l),(2,.ptr 2 0 0 0),(7,.own 30),(8,.nils),(9,.ptr 9 0 0 0),(10,iv (k:Int))],[(2,.box (mnE m) 23),(9,.box (tmE (addV (brS (meU m) l k).1 b.Dur)) 83),(30,.row btsE ((brS (meU m) l k).2.2++[(brS (meU m) l k).2.1++[b]]) 24 1)]⟩) yi ?_;refine kJ (yI btE 100 3 8 31 rfl rfl) ?_;refine gq ?_;refine yz (k+1) (hJ:=by exact⟨by omega,Q⟩) (hI:=yi)
  ·have U:¬whB (meU m) (addV (brS (meU m) l k).1 b.Dur)=true:=by
    rw[hw];intro e;rw[j7,jU,jU]at e;rcases V with h|h
    ·exact h e.1
    ·exact h e.2
   have x0:=zBA T U;obtain⟨g1,g2,g3⟩:=x0;have g4:setAt (tmE (brS (meU m) l k).1) (0*0+0) (tmE (addV (brS (meU m) l k).1 b.Dur))=tmE (brS (meU m) l (k+1)).1:=g1;refine gq ?_;refine yz (k+1) (hJ:=by exact⟨by omega,Q⟩) (hI:=yi)
 ·obtain rfl:k=l.length:=by omega
  have w2:=zBC h0 k2;obtain⟨hE,N⟩:=w2;have I:=k2.n;refine gd ?_ ?_<;>intro J
  ·have Z:(brS (meU m) l l.length).2.2++[(brS (meU m) l l.length).2.1]=blV m l:=by rw[N,j4 (λe=>by rw[e]at J;exact absurd J (by decide))]
   refine kJ (k9 (k:=31) rfl) ?_;refine gq ?_;refine yD btsE [(brS (meU m) l l.length).2.1] ?_;refine kK ?_;refine ya ?_;apply yG;refine yE ?_;refine kE ?_;refine kA (k9 (k:=30) rfl) ?_;refine ym ?_ ?_;all_goals(first|exact zE hE|exact zE Z|exact j5 (λz=>blsA z) Z|exact j5 (AV.int .i64) hE.symm)
  ·have Z:(brS (meU m) l l.length).2.2=blV m l:=by rw[N,j3 (jN (by omega)),wC]
   apply yk;apply ye;refine yE ?_;refine kE ?_;refine kA (k9 (k:=30) rfl) ?_;refine ym ?_ ?_;all_goals(first|exact zE hE|exact zE Z|exact j5 (λz=>blsA z) Z|exact j5 (AV.int .i64) hE.symm)
end
section
attribute [local irreducible] Pur yA yC Ex X Fn Imp LeV LeB FnO It yH FnW FnOW FnP FnD
attribute [local irreducible] bsB nkB lwB dcB nmQ
def zb7(c:Int):Fn prog 151 [.int .u8 c] (.bool (lwB c)):=by
 refine kF func151 ntmps151 (λg w d=>?_);apply ye;refine ya ?_;apply yG;iterate 2 refine ya ?_
 refine kI 2 ?_;refine yp ?_;iterate 2 refine kG ?_
 refine ge ?_;all_goals(unfold lwB;rfl)
def zfo(c:Int):Fn prog 152 [.int .u8 c] (.bool (dcB c)):=by
 refine kF func152 ntmps152 (λg w d=>?_);apply ye;refine ya ?_;apply yG;iterate 2 refine ya ?_
 refine kI 2 ?_;refine yp ?_;iterate 2 refine kG ?_
 refine ge ?_;all_goals(unfold dcB;rfl)
set_option maxHeartbeats 4000000 in
def zkK(s:ByteArray)(hs:s.size<=1000000):Fn prog 108 [.str s] (.bool (nmQ (bsB s))):=by
 have Z:=zqx s;refine kF func108 ntmps108 (λg w d=>?_);apply ye;refine yh ?_;apply yf;apply ye;refine ya ?_;refine ya (hs:=by exact zbW Tryz.underlying9 rfl) ?_;refine ya ?_;refine kI 3 ?_;refine yp ?_;refine kG ?_;refine kG (hs:=λU=>zbW Tryz.underlying9 rfl) ?_;refine kG ?_;iterate 2 refine yp ?_
 refine kG ?_;refine kG (hs:=λU=>zas (s:=s) (i:=0) Tryz.underlying9 rfl rfl (by decide) (by omega)) ?_;refine kG ?_;iterate 2 refine yp ?_
 refine kG ?_;refine kG (hs:=λU=>zas (s:=s) (i:=0) Tryz.underlying9 rfl rfl (by decide) (by omega)) ?_;refine kG ?_;refine gf ?_ ?_<;>intro J
 ·have T:nmQ (bsB s)=false:=zBy (by rw[Z,show(bsB s).getD 0 0=((bsB s).getD (0:Int).toNat 0)from rfl];unfold lwB;simp only[u7,jR];omega);refine gq ?_;all_goals rw[T]
 have Q:lwB ((bsB s).getD 0 0)=true:=by show lwB ((bsB s).getD (0:Int).toNat 0)=true;unfold lwB;simp only[j7,w5];omega
 apply yk;apply yf;apply ye;refine ya ?_;refine ya (hs:=by exact zbW Tryz.underlying9 rfl) ?_;refine yh ?_;apply kB;refine zM (λk=>[(0,.str s),(24,iv (s.size:Int)),(25,iv (k:Int))]) (λk=>[]) (λk=>k<=s.size/\((bsB s).take k).all nkB=true) s.size (λk I=>?_) (hJ:=by exact⟨w7 _,by simp⟩);obtain⟨H,V⟩:=I;refine gd ?_ ?_<;>intro G
 ·apply yk;apply yf;apply kB;apply ye;iterate 2 refine ya ?_
  apply yG;iterate 2 refine ya ?_
  refine ya (hs:=by exact zas (s:=s) (i:=(k:Int)) Tryz.underlying9 rfl rfl (by omega) (by omega)) ?_;refine ya ?_;apply yG;iterate 2 refine ya ?_
  refine kI 2 ?_;refine yp ?_;iterate 2 refine kG ?_
  iterate 2 refine yp ?_
  iterate 6 refine kG ?_
  iterate 2 refine yp ?_
  iterate 2 refine kG ?_
  refine gf ?_ ?_<;>intro E
  ·have T:nmQ (bsB s)=false:=zqz (k:=k) (by omega) (zyE (by rw[show(bsB s).getD k 0=((bsB s).getD (k:Int).toNat 0)by rw[wG]];omega));refine gq ?_;all_goals rw[T]
  have N:=zyG V (by omega) (zyF (by rw[show(bsB s).getD k 0=((bsB s).getD (k:Int).toNat 0)by rw[wG]];omega));refine gq ?_;refine yz (k+1) (hJ:=by exact⟨by omega,N⟩) (hI:=yi)
 ·obtain rfl:k=s.size:=by omega
  have T:nmQ (bsB s)=true:=by
   rw[←Z,jH]at V;rw[zqA V,Q,Z];simp;omega
  refine gq ?_;all_goals rw[T]
set_option maxHeartbeats 4000000 in
def zfS(s:ByteArray)(hs:s.size<=1000000):Fn prog 109 [.str s] (.bool (nmQ (bsB s))):=by
 have U:=zqx s;refine kF func109 ntmps109 (λg w d=>?_);apply ye;refine yh ?_;apply yf;apply ye;refine yh ?_;apply kB;refine zM (λk=>[(0,.str s),(3,iv (k:Int))]) (λk=>[]) (λk=>k<=s.size/\((bsB s).take k).all nkB=true) s.size (λk J=>?_) (hJ:=by exact⟨w7 _,by simp⟩);obtain⟨I,V⟩:=J;apply yf;apply ye;iterate 2 refine ya ?_
 refine ya (hs:=by exact zbW Tryz.underlying9 rfl) ?_;refine gd ?_ ?_<;>intro H
 ·apply yk;apply yf;apply kB;apply ye;iterate 2 refine ya ?_
  refine ya (hs:=by exact zas (s:=s) (i:=(k:Int)) Tryz.underlying9 rfl rfl (by omega) (by omega)) ?_;refine yP (zb7 ((bsB s).getD (k:Int).toNat 0)) ?_;refine ya ?_;refine kI 5 ?_;refine yp ?_;iterate 2 refine kG ?_
  refine kG (hs:=λZ=>zas (s:=s) (i:=(k:Int)) Tryz.underlying9 rfl rfl (by omega) (by omega)) ?_;refine bA (zfo ((bsB s).getD (k:Int).toNat 0)) ?_;refine kG ?_;iterate 2 refine yp ?_
  iterate 2 refine kG ?_
  refine kG (hs:=λZ=>zas (s:=s) (i:=(k:Int)) Tryz.underlying9 rfl rfl (by omega) (by omega)) ?_;refine kG ?_;refine gf ?_ ?_<;>intro T
  ·have Q:nmQ (bsB s)=false:=zqz (k:=k) (by omega) (by rw[show(bsB s).getD k 0=((bsB s).getD (k:Int).toNat 0)by rw[wG]];exact zyI T);refine gq ?_;all_goals rw[Q]
  have N:=zyG V (by omega) (by rw[show(bsB s).getD k 0=((bsB s).getD (k:Int).toNat 0)by rw[wG]];exact zyJ T);refine gq ?_;refine yz (k+1) (hJ:=by exact⟨by omega,N⟩) (hI:=yi)
 ·obtain rfl:k=s.size:=by omega
  have Q:=zqA (l:=bsB s) (by rw[←U,jH]at V;exact V);rw[U]at Q;apply kO;apply ye;refine ya ?_;refine ya (hs:=by exact zo4 rfl rfl) ?_;refine kI 2 ?_;refine yp ?_;refine kG ?_;refine kG (hs:=λZ=>zbW Tryz.underlying9 rfl) ?_;refine kG ?_;iterate 2 refine yp ?_
  refine kG ?_;refine kG (hs:=λZ=>zas (s:=s) (i:=0) Tryz.underlying9 rfl rfl (by decide) (by have:=zyH Z;omega)) ?_;refine bA (zb7 ((bsB s).getD (0:Int).toNat 0)) ?_;refine ge ?_;all_goals(rw[Q];exact j5 AV.bool (zwm s))
def zey(s q:ByteArray)(a b:List Sg)(hl:a.length<=4000000000):Fn prog 52 [.agg [.str s,sgsA a],.agg [.str q,sgsA b]] (.bool ((s.toList==q.toList)&&decide (a=b))):=by
 refine kF func52 ntmps52 (λg w d=>?_);apply ye;iterate 2 refine zH ?_
 refine ya ?_;apply yG;iterate 4 refine ya ?_
 refine ya (hs:=by exact zo3 rfl rfl) ?_;refine kI 5 ?_;refine gq ?_;refine bA (zY a b hl) ?_;refine ge ?_;all_goals rfl
end
end Go.Rse
