/-
  Walks.
-/
import Derived.Test.YtbopkhoalndflaaGreatDoorUJRef24c
set_option linter.all false
namespace Go.Rse
open Go Go.Proofs Go.Proofs.Tryz
section
abbrev mO:Mn:=⟨2,2,3,2⟩
abbrev hAll:Hb:=⟨true,true,true⟩
def bt1(n:Int):Bt:=⟨⟨n/gI n 1,1/gI n 1⟩,false⟩
def wnS(x:Int):Sg:=if x=0 then⟨3,0,0,0,false,0,false,false,⟨0,0,0,0⟩,false,0,0,0,0⟩else if x<0 then⟨1,-x,4,0,true,0,false,false,⟨0,0,0,0⟩,false,0,0,0,0⟩else⟨1,x,4,0,false,0,false,false,⟨0,0,0,0⟩,false,0,0,0,0⟩
def zCm{l:List Int}{k:Nat}{x:Int}(h:l[k]? =some x):(l.take k).map bt1++[bt1 x]=(l.take (k+1)).map bt1:=by
 rw[jA,h];simp
def zCn{l:List Int}{k:Nat}{x:Int}(h:l[k]? =some x):(l.take k).map wnS++[wnS x]=(l.take (k+1)).map wnS:=by
 rw[jA,h];simp
def zqj{α β:Type}(f:α->β)(l:List α)(k:Nat):((l.take k).map f).length<=l.length:=by rw[jO,jL];omega
def zuT{α:Type}{l:List α}{k:Nat}{x:α}(h:l[k]? =some x):l.take k++[x]=l.take (k+1):=by rw[jA,h];rfl
def F6:List (List Sg):=[[wnS 3],[wnS 3,wnS 0],[wnS (-3)],[wnS (-3),wnS 0],[wnS 4],[wnS 4,wnS 0]]
def zCo:(decide (wcE mO [bt1 4]=0)&&decide (fmV mO (bt1 4) hAll=F6))=true:=by kernel_rfl
def zCp:(decide (blE mO ([6,4,2,2].map bt1)=0)&&decide (blV mO ([6,4,2,2].map bt1)=[[6].map bt1,[4,2].map bt1,[2].map bt1]))=true:=by kernel_rfl
def zCq:(decide (wisE mO ([4,2,6].map bt1) ([3,4,3].map wnS)=0)&&wisB mO ([4,2,6].map bt1) ([3,4,3].map wnS))=true:=by kernel_rfl
def wrQ(l:List Int)(h:Hb)(w:List Int):Bool:=decide (wrE mO (l.map bt1) h=0)&&decide (wrV mO (l.map bt1) h=w.map wnS)
def zCr:wrQ [6,2,4,6] ⟨false,false,true⟩ [3,4,4,3]=true:=by kernel_rfl
attribute [local irreducible] Pur yA yC Ex X Fn Imp LeV LeB FnO It yH FnW FnOW FnP FnD
attribute [local irreducible] wcE fmV blE blV wisE wisB wrE wrV bt1 wnS
def zaa:Fn prog 68 [] (mnA mO):=by
 refine kC func68 ntmps68 (λg w d=>?_);refine gq ?_;refine kH (.one (.cellA rfl rfl rfl rfl ty23 (kB ?_)));all_goals exact zR
def zgI:Fn prog 29 [] (hbA hAll):=by
 refine kC func29 ntmps29 (λg w d=>?_);refine gq ?_;refine kH (.one (.cellA rfl rfl rfl rfl ty32 (kB ?_)));all_goals exact zR
def zgJ(l:List Bt)(hl:l.length<=4000000000):Fn prog 16 [btsA l] (btsA l):=by
 refine kC func16 ntmps16 (λg w d=>?_);refine gq ?_;refine yz btE [] ?_;refine ya ?_;refine kI ?_;refine yi ?_;refine kE ?_;refine k8 (k9 (k:=3) rfl) ?_;refine gq ?_;all_goals rfl
def zcY(a b:List Bt)(hl:a.length<=4000000000):Fn prog 22 [btsA a,btsA b] (.bool (decide (a=b))):=by
 refine kC func22 ntmps22 (λg w d=>?_);refine gd ?_ ?_<;>intro N
 ·have U:decide (a=b)=false:=by rw[jP];intro h;subst h;exact N rfl
  refine gq ?_;all_goals rw[U]
 have T:a.length=b.length:=by omega
 apply yl;apply yf;apply ye;refine yi ?_;apply kA;refine zV (λk=>[(0,btsA a),(1,btsA b),(5,iv (k:Int))]) (λk=>[]) (λk=>k<=a.length/\a.take k=b.take k) a.length (λk J=>?_) (hJ:=by exact⟨by omega,by simp⟩);obtain⟨I,Z⟩:=J;refine gd ?_ ?_<;>intro H
 ·obtain⟨x,hx⟩:∃x,a[k]? =some x:=⟨_,lgg (by omega)⟩;have E:a[(k:Int).toNat]? =some x:=by simpa using hx
  obtain⟨y,V⟩:∃y,b[k]? =some y:=⟨_,lgg (by omega)⟩;have xT:b[(k:Int).toNat]? =some y:=by simpa using V
  refine gq ?_;refine yQ [17,18,19,20,21,22,23,24,25] [0,0,3,7,0,0,48,112,255] mo ?_;iterate 8 refine yb ?_
  refine yb ?_ (hs:=by exact zbd (ziu _ _) inferInstance TyK.h rfl rfl rfl rfl rfl);refine yx ?_;refine gd ?_ ?_<;>intro Q
  ·have U:decide (a=b)=false:=by rw[jP];intro h;subst h;rw[hx]at V;injection V with V;exact(by simpa using Q:¬x=y) V
   refine gq ?_;all_goals rw[U]
  refine gq ?_;refine yo (k+1) (hJ:=by exact⟨by omega,by rw[←zuT hx,←zuT V,Z,(by simpa using Q:x=y)]⟩) (hI:=yg)
 ·have U:decide (a=b)=true:=by
   have h1:k=a.length:=by omega
   rw[jT];subst h1;rw[j9,T,j9]at Z;exact Z
  refine gq ?_;all_goals rw[U]
def zN(l:List Int)(hl:l.length<=1000)(hr:∀x∈l,0<=x/\x<=1000):Fn prog 69 [yc l] (btsA (l.map bt1)):=by
 have U:[]=(l.take 0).map bt1:=by simp
 refine kC func69 ntmps69 (λg w d=>?_);apply ye;refine ya ?_;apply yG;refine yi ?_;iterate 2 apply yf
 refine kJ (yE btE 100 3 3 30 rfl rfl) ?_;apply yj;refine yi ?_;apply kA;refine ze (λk=>[(0,yc l),(3,.own 30),(4,iv (k:Int))]) (λk=>[(30,.row btE ((l.take k).map bt1) 100 3)]) l.length (λk H=>?_);refine gd ?_ ?_<;>intro T
 ·obtain⟨x,hx⟩:∃x,l[k]? =some x:=⟨_,lgg (by omega)⟩;have Q:l[(k:Int).toNat]? =some x:=by simpa using hx
  have N:=hr x (j5 hx);have Z:=zCm hx;have V:(l.take k).map bt1++[⟨⟨x/gI x 1,1/gI x 1⟩,false⟩]=(l.take (k+1)).map bt1:=by rw[←Z];unfold bt1;rfl
  have J:=zqj bt1 l k;refine gc (zfS x 1 (by omega) (by omega)) ?_;refine yz btE [⟨⟨x/gI x 1,1/gI x 1⟩,false⟩] ?_;refine gq ?_;refine yo (k+1) (hI:=yg)
 ·obtain rfl:k=l.length:=by omega
  have I:(l.take l.length).map bt1=l.map bt1:=by rw[j9]
  apply kK;apply ye;refine yL ?_;refine kE ?_;refine k8 (k9 (k:=30) rfl) ?_;refine gq ?_;all_goals(exact j6 (λz=>btsA z) I)
set_option maxHeartbeats 1000000 in
def zbI(l:List Int)(hl:l.length<=1000)(hr:∀x∈l,-1000<=x/\x<=1000):Fn prog 70 [yc l] (sgsA (l.map wnS)):=by
 have N:[]=(l.take 0).map wnS:=by simp
 refine kC func70 ntmps70 (λg w d=>?_);apply ye;refine ya ?_;apply yG;refine yi ?_;iterate 2 apply yf
 refine kJ (yE sgE 90 17 3 30 rfl rfl) ?_;apply yj;refine yi ?_;apply kA;refine ze (λk=>[(0,yc l),(3,.own 30),(4,iv (k:Int))]) (λk=>[(30,.row sgE ((l.take k).map wnS) 90 17)]) l.length (λk hk=>?_);refine gd ?_ ?_<;>intro J
 ·obtain⟨x,hx⟩:∃x,l[k]? =some x:=⟨_,lgg (by omega)⟩;have I:l[(k:Int).toNat]? =some x:=by simpa using hx
  have H:=hr x (j5 hx);have Z:=zCn hx;have E:=zqj wnS l k;refine gd ?_ ?_<;>intro V
  ·have U:wnS x=⟨3,0,0,0,false,0,false,false,⟨0,0,0,0⟩,false,0,0,0,0⟩:=by unfold wnS;rw[j4 V]
   rw[U]at Z;refine gq ?_;refine yz sgE [⟨3,0,0,0,false,0,false,false,⟨0,0,0,0⟩,false,0,0,0,0⟩] ?_;refine gq ?_;refine yo (k+1) (hI:=yg)
  ·have Q:=Z;refine gd ?_ ?_<;>intro T
   ·have U:wnS x=⟨1,-x,4,0,true,0,false,false,⟨0,0,0,0⟩,false,0,0,0,0⟩:=by unfold wnS;rw[j3 V,j4 T]
    rw[U]at Z;refine gq ?_;refine yz sgE [⟨1,-x,4,0,true,0,false,false,⟨0,0,0,0⟩,false,0,0,0,0⟩] ?_;refine gq ?_;refine yo (k+1) (hI:=yg)
   ·have U:wnS x=⟨1,x,4,0,false,0,false,false,⟨0,0,0,0⟩,false,0,0,0,0⟩:=by unfold wnS;rw[j3 V,j3 (show¬x<0 by omega)]
    rw[U]at Z;refine gq ?_;refine yz sgE [⟨1,x,4,0,false,0,false,false,⟨0,0,0,0⟩,false,0,0,0,0⟩] ?_;refine gq ?_;refine yo (k+1) (hI:=yg)
 ·obtain rfl:k=l.length:=by omega
  have hV:(l.take l.length).map wnS=l.map wnS:=by rw[j9]
  apply kK;apply ye;refine yL ?_;refine kE ?_;refine k8 (k9 (k:=30) rfl) ?_;refine gq ?_;all_goals(exact j6 (λz=>sgsA z) hV)
def zeL(l:List Bt)(h:Hb)(ws:List Int)(hl:l.length<=4000000000)(Z:ws.length<=1000)(hr:∀x∈ws,-1000<=x/\x<=1000)(hv:(wrV mO l h).length<=4000000000):Fn prog 71 [btsA l,hbA h,yc ws] (.bool (decide (wrE mO l h=0)&&decide (wrV mO l h=ws.map wnS))):=by
 refine kC func71 ntmps71 (λg w d=>?_);refine gq ?_;refine yQ [7,8,9,10,11,12,13,14,15] [0,0,0,7,15,31,31,63,255] mo ?_;refine yI zaa ?_;iterate 2 refine yb ?_
 refine yI (zfT mO l h hl) ?_;iterate 5 refine yb ?_
 refine yx ?_;apply yG;iterate 2 refine ya ?_
 refine kG 2 ?_;refine gq ?_;refine kQ (zbI ws Z hr) ?_;refine kQ (y6 (wrV mO l h) (ws.map wnS) hv) ?_;refine ge ?_;all_goals exact zR
def zyg:Fn prog 67 [mnA mO,btA (bt1 4),hbA hAll] (.tup [zp F6,iv 0]):=by
 have h:=zfZ mO (bt1 4) hAll;have e:=zCo;rw[j7,jT,jT]at e;rw[e.1,e.2]at h;exact h
def zyh:Fn prog 48 [mnA mO,btsA ([6,4,2,2].map bt1)] (.tup [blsA [[6].map bt1,[4,2].map bt1,[2].map bt1],iv 0]):=by
 have h:=zi3 mO ([6,4,2,2].map bt1) (by decide);have e:=zCp;rw[j7,jT,jT]at e;rw[e.1,e.2]at h;exact h
def zyi:Fn prog 20 [mnA mO,btsA ([4,2,6].map bt1),sgsA ([3,4,3].map wnS)] (.tup [.bool true,iv 0]):=by
 have h:=znj mO ([4,2,6].map bt1) ([3,4,3].map wnS) (by decide) (by decide);have e:=zCq;rw[j7,jT]at e;rw[e.1,e.2]at h;exact h
def zyj{l:List Int}{h:Hb}{w:List Int}(e:wrQ l h w=true)(hl:l.length<=1000)(Z:w.length<=1000)(hr:∀x∈w,-1000<=x/\x<=1000):Fn prog 71 [btsA (l.map bt1),hbA h,yc w] (.bool true):=by
 unfold wrQ at e;have e2:=e;rw[j7,jT,jT]at e2;have c:=zeL (l.map bt1) h w (by rw[jO];omega) Z hr (by rw[e2.2,jO];omega);rw[e]at c;exact c
set_option maxHeartbeats 4000000 in
set_option maxRecDepth 100000 in
def zcz:Fn prog 15 [] (.bool true):=by
 have Z:([4].map bt1)[(0:Int).toNat]? =some (bt1 4):=rfl;have V:F6[(5:Int).toNat]? =some [wnS 4,wnS 0]:=rfl;have U:([[6].map bt1,[4,2].map bt1,[2].map bt1]:List (List Bt))[(1:Int).toNat]? =some ([4,2].map bt1):=rfl;refine kC func15 ntmps15 (λg w d=>?_);refine gq ?_;refine yQ [1,2,7,8,9,10,11,12,13,14,15,16] [0,0,3,7,15,7,63,127,255,255,511,2047] mo ?_;refine yI zaa ?_;refine ChM.step rfl rfl rfl (zr5 (enc:=intE) (l:=[4]) sl46 ty3 ze3) rfl ?_;refine yI (zN [4] (by decide) (by decide)) ?_;iterate 2 refine yb ?_
 refine yI zgI ?_;refine yI zyg ?_;iterate 5 refine yb ?_
 refine yx ?_;apply yG;refine yM zaa ?_;refine kS (yF (enc:=intE) (l:=[6,4,2,2]) sl46 ty3 ze3 (by decide) rfl rfl rfl rfl (by decide) (by decide) (λ_=>rfl) rfl) rfl rfl ?_;refine yM (zN [6,4,2,2] (by decide) (by decide)) ?_;refine gc zyh ?_;refine yM zaa ?_;refine kS (yF (enc:=intE) (l:=[4,2,6]) sl46 ty3 ze3 (by decide) rfl rfl rfl rfl (by decide) (by decide) (λ_=>rfl) rfl) rfl rfl ?_;refine yM (zN [4,2,6] (by decide) (by decide)) ?_;refine kS (yF (enc:=intE) (l:=[3,4,3]) sl46 ty3 ze3 (by decide) rfl rfl rfl rfl (by decide) (by decide) (λ_=>rfl) rfl) rfl rfl ?_;refine yM (zbI [3,4,3] (by decide) (by decide)) ?_;refine gc zyi ?_;refine yQ [0,33,34,35,36,37,38,39,40,41,42,43,44,45,46,47,48,49,50,51,52,53,54,55,56,57,58,59,60,61,62,63,64,65,66,67,68,69,70,71,72,73,74,75,76,77,78] [0,1,3,7,15,31,63,127,255,511,1023,255,2303,8191,16383,32767,65535,131071,262143,524287,1048575,2097151,4194303,8388607,16777215,33554431,67108863,134217727,33554431,301989887,1073741823,2147483647,4294967295,8589934591,17179869183,34359738367,68719476735,137438953471,274877906943,549755813887,1099511627775,2199023255551,1099511627775,1099511627775,17592186044415,35184372088831,70368744177663] mo ?_;iterate 3 refine yb ?_
 iterate 3 refine kM ?_
 iterate 2 refine yb ?_
 iterate 3 refine kM ?_
 refine ChM.gs (yF (enc:=intE) (l:=[4,0]) sl46 ty3 ze3 (by decide) rfl rfl rfl rfl (by decide) (by decide) (λ_=>rfl) rfl) ?_;refine kX (zbI [4,0] (by decide) (by decide)) ?_;refine kX (y6 [wnS 4,wnS 0] ([4,0].map wnS) (by decide)) ?_;iterate 2 refine yb ?_
 iterate 2 refine kM ?_
 iterate 2 refine yb ?_
 iterate 3 refine kM ?_
 iterate 2 refine yb ?_
 iterate 3 refine kM ?_
 refine ChM.gs (yF (enc:=intE) (l:=[4,2]) sl46 ty3 ze3 (by decide) rfl rfl rfl rfl (by decide) (by decide) (λ_=>rfl) rfl) ?_;refine kX (zN [4,2] (by decide) (by decide)) ?_;refine kX (zcY ([4,2].map bt1) ([4,2].map bt1) (by decide)) ?_;iterate 2 refine yb ?_
 iterate 2 refine kM ?_
 iterate 2 refine yb ?_
 refine kM ?_;iterate 2 refine yb ?_
 refine ChM.gs (yF (enc:=intE) (l:=[6,2,4,6]) sl46 ty3 ze3 (by decide) rfl rfl rfl rfl (by decide) (by decide) (λ_=>rfl) rfl) ?_;refine kX (zN [6,2,4,6] (by decide) (by decide)) ?_;refine kM ?_;refine ChM.gs (yF (enc:=intE) (l:=[3,4,4,3]) sl46 ty3 ze3 (by decide) rfl rfl rfl rfl (by decide) (by decide) (λ_=>rfl) rfl) ?_;refine kX (zyj zCr (by decide) (by decide) (by decide)) ?_;iterate 2 refine yb ?_
 refine yx ?_;refine gq ?_;all_goals(first|rfl|(simp[F6];done)|simp)
end
section
def fiV(m:Mn)(D:List Tm)(C:List (List (List Sg)))(run:List Sg):List Sg:=if C=[]then run else(srV m D C run).getD []
def zCs(m:Mn)(D:List Tm)(run:List Sg):fiV m D [] run=run/\(srV m D [] run).isSome=(decide (rdE m run=0)&&decide ((rdV m run).Durs=D)):=by
 grind[fiV,srV,reQ]
def zv0{m:Mn}{D:List Tm}{C:List (List (List Sg))}{run x:List Sg}(h:srV m D C run=some x):fiV m D C run=x:=by
 grind[fiV,srV]
def zCt(m:Mn)(D:List Tm)(F:List (List Sg))(C:List (List (List Sg)))(run:List Sg)(h:srV m D (F::C) run=none):fiV m D (F::C) run=[]:=by
 simp_all[fiV]
def afE(m:Mn)(l:List Bt)(h:Hb):Int:=if wcnE m l h=0 then(if wcnV m l h=0 then 18 else 0)else wcnE m l h
def afV(m:Mn)(l:List Bt)(h:Hb):List (List (List Sg)):=if afE m l h=0 then chV m l h else[]
theorem zv1{m:Mn}{l:List Bt}{h:Hb}(c:¬wcnE m l h=0):afE m l h=wcnE m l h/\afV m l h=[]:=by
 simp_all[afE,afV]
def zyk{m:Mn}{l:List Bt}{h:Hb}(c:wcnE m l h=0)(c2:wcnV m l h=0):afE m l h=18/\afV m l h=[]:=by
 simp_all[afE,afV]
def zyl{m:Mn}{l:List Bt}{h:Hb}(c:wcnE m l h=0)(c2:¬wcnV m l h=0):afE m l h=0/\afV m l h=chV m l h:=by
 simp_all[afE,afV]
def zuU{m:Mn}{l:List Bt}{h:Hb}(c:wcnE m l h=0):wcE m l=0:=by
 grind[zjs]
def zv2{m:Mn}{l:List Bt}(c:wcE m l=0):ckM m=0:=by
 grind[ztp]
theorem zsu{m:Mn}{l:List Bt}{h:Hb}(c:wcnE m l h=0):wcnV m l h=(cnP m h l:Int):=by unfold wcnV;rw[j4 c]
def zym{m:Mn}{l:List Bt}{h:Hb}(c:afE m l h=0):(afV m l h).length<=1000000/\(∀f∈afV m l h,f.length<=32/\∀s∈f,1<=s.length/\s.length<=2)/\([]:List Sg).length+2*((afV m l h).length-0)<=1000:=by
 have h0:wcnE m l h=0:=by
  grind[zv1]
 have Z:=zlb h0;have V:afV m l h=chV m l h:=by unfold afV;rw[j4 c]
 rw[V,zei];exact⟨by omega,zni m l h,by grind⟩
def zv3{m:Mn}(hm:ckM m=0):reQ m [] []=true:=by
 have key:∀a b c d:Bool,reQ ⟨bif a then 2 else 3,bif b then 2 else 3,bif c then 2 else 3,bif d then 2 else 3⟩ [] []=true:=by decide+kernel
 obtain⟨p,q,r,s⟩:=m
 have h:(p=2\/p=3)/\(q=2\/q=3)/\(r=2\/r=3)/\(s=2\/s=3):=by
  unfold ckM at hm;split at hm
  ·rename_i h;exact h
  ·cases hm
 obtain⟨Z,V,U,T⟩:=h;rcases Z with rfl|rfl<;>rcases V with rfl|rfl<;>rcases U with rfl|rfl<;>rcases T with rfl|rfl
 ·exact key true true true true
 ·exact key true true true false
 ·exact key true true false true
 ·exact key true true false false
 ·exact key true false true true
 ·exact key true false true false
 ·exact key true false false true
 ·exact key true false false false
 ·exact key false true true true
 ·exact key false true true false
 ·exact key false true false true
 ·exact key false true false false
 all_goals rfl
def zCu{m:Mn}{l:List Bt}{h:Hb}(c:¬afE m l h=0):wrE m l h=afE m l h/\wrV m l h=[]:=by
 by_cases h0:wcnE m l h=0;all_goals grind[zsu,cnP,zn9,zv7,wrE,afE,wrV]
def zCv{m:Mn}{l:List Bt}{h:Hb}(c:afE m l h=0):wrE m l h=(if(srV m (durB l) (afV m l h) []).isSome then 0 else 18)/\wrV m l h=(srV m (durB l) (afV m l h) []).getD []:=by
 have h0:wcnE m l h=0:=by
  grind[zv1]
 have Z:¬wcnV m l h=0:=λV=>by simp_all[zyk]
 rw[(zyl h0 Z).2];by_cases hl:l.length=0
 ·obtain⟨q1,q2⟩:=zyv h0 hl;have e2:l=[]:=jQ hl;subst e2;have U:=zv3 (zv2 (zuU h0));simp_all[srV,durB,chV]
 ·exact zv7 h0 hl
attribute [local irreducible] Pur yA yC Ex X Fn Imp LeV LeB FnO It yH FnW FnOW FnP FnD
attribute [local irreducible] wcE wcnE wcnV frV chV durB rdE rdV srV wrE wrV fiV afE afV
set_option maxHeartbeats 4000000 in
def zgb(m:Mn)(D:List Tm)(n:Nat)(F:List (List (List Sg)))(i:Nat)(run:List Sg)(hn:F.length-i=n)(hi:i<=F.length)(hF:F.length<=1000000)(E:∀f∈F,f.length<=32/\∀s∈f,1<=s.length/\s.length<=2)(hr:run.length+2*(F.length-i)<=1000):Fn prog 87 [mnA m,tmsA D,chsA F,iv (i:Int),sgsA run] (.tup [sgsA (fiV m D (F.drop i) run),.bool (srV m D (F.drop i) run).isSome]):=by
 induction n using Nat.strongRecOn generalizing i run
 rename_i n ih;refine kC func87 ntmps87 (λg w d=>?_);refine gd ?_ ?_<;>intro xT
 ·obtain rfl:i=F.length:=by omega
  have Q:=zCs m D run;obtain⟨V,hB⟩:=Q;refine gc (zcE m run D (by omega)) ?_;refine yh ?_ ?_;all_goals simp_all
 obtain⟨f,hf⟩:∃f,F[i]? =some f:=⟨_,lgg (by omega)⟩;have x4:F[(i:Int).toNat]? =some f:=by simpa using hf
 have Z:F.drop i=f::F.drop (i+1):=by grind[List.drop_eq_getElem_cons]
 have N:=E f (j5 hf);refine gq ?_
 refine zcw (ι:=Nat) (λ(k:Nat)=>[(1,tmsA D),(2,chsA F),(3,iv (i:Int)),(4,sgsA run),(5,.ptr 5 0 0 0),(12,iv (k:Int))]) (λ(k:Nat)=>[(5,.box (mnE m) 23)]) (λ(k:Nat)=>k<=f.length/\(f.take k).findSome? (λs=>srV m D (F.drop (i+1)) (run++s))=none) (λ(k:Nat)=>f.length-k) 0 (λk hk=>?_) (hJ:=by
  simp_all) (h0:=by exact yg)
 obtain⟨x3,U⟩:=hk;refine gd ?_ ?_<;>intro x2
 ·obtain⟨s,hs⟩:∃s,f[k]? =some s:=⟨_,lgg (by omega)⟩;have x1:f[(k:Int).toNat]? =some s:=by simpa using hs
  have x0:=N.2 s (j5 hs);refine gq ?_;refine kY [⟨1,35,sgsA run,[]⟩,⟨3,37,chsA F,[]⟩,⟨4,38,iv (i:Int),[]⟩,⟨5,39,.ept zb7 f 0,[4,3]⟩,⟨6,40,zp f,[4,3,5]⟩,⟨7,41,iv (k:Int),[]⟩,⟨8,42,.ept sgsE s 0,[4,3,5,7,6]⟩,⟨9,43,sgsA s,[4,3,5,7,6,8]⟩] [(0,[]),(2,[1,0]),(10,[4,3,5,7,6,8,1,0,9,2]),(11,[9,8,7,6,5,4,3,2,1,0,10])] (λj=>match j with|0=>⟨[(1,tmsA D),(2,chsA F),(3,iv (i:Int)),(4,sgsA run),(5,.ptr 5 0 0 0),(12,iv (k:Int))],[(5,.box (mnE m) 23)]⟩|1=>⟨[(1,tmsA D),(2,chsA F),(3,iv (i:Int)),(4,sgsA run),(5,.ptr 5 0 0 0),(12,iv (k:Int)),(34,.own 34)],[(5,.box (mnE m) 23),(34,.row sgE ([]) 90 17)]⟩|2=>⟨[(1,tmsA D),(2,chsA F),(3,iv (i:Int)),(4,sgsA run),(5,.ptr 5 0 0 0),(12,iv (k:Int)),(36,.own 34)],[(5,.box (mnE m) 23),(34,.row sgE ([]++run) 90 17)]⟩|3=>⟨[(1,tmsA D),(2,chsA F),(3,iv (i:Int)),(4,sgsA run),(5,.ptr 5 0 0 0),(12,iv (k:Int)),(44,.own 34)],[(5,.box (mnE m) 23),(34,.row sgE ([]++run++s) 90 17)]⟩|_=>⟨[(1,tmsA D),(2,chsA F),(3,iv (i:Int)),(4,sgsA run),(5,.ptr 5 0 0 0),(12,iv (k:Int)),(13,.own 34)],[(5,.box (mnE m) 23),(34,.row sgE ([]++run++s) 90 17)]⟩) mo (by kernel_rfl) (zt (yd)) (λj hj=>?_) (λj c T β hβ=>?_) ?_
  ·rcases j with _|_|_|_|_|j
   ·exact yJ
   ·exact yJ
   ·exact yJ
   ·exact yJ
   ·exact yJ
   simp_all
  ·rcases j with _|_|_|_|j
   ·obtain rfl:(0,[])=c:=by injection T
    refine yw rfl (yr (st0:=⟨[(35,.ifb (β 1) (sgsA run)),(37,.ifb (β 3) (chsA F)),(38,.ifb (β 4) (iv (i:Int))),(39,.ifb (β 5) (.ept zb7 f 0)),(40,.ifb (β 6) (zp f)),(41,.ifb (β 7) (iv (k:Int))),(42,.ifb (β 8) (.ept sgsE s 0)),(43,.ifb (β 9) (sgsA s)),(1,tmsA D),(2,chsA F),(3,iv (i:Int)),(4,sgsA run),(5,.ptr 5 0 0 0),(12,iv (k:Int))],[(5,.box (mnE m) 23)]⟩) (ym) ?_);refine yC.imp (yS (zD (k:=34) (enc:=sgE) (l:=([]:List Sg)) sl33 ty90 ze90 (by decide) rfl rfl rfl rfl (by decide) (by decide) (λ_=>rfl) rfl) rfl rfl) (ym)
   ·obtain rfl:(2,[1,0])=c:=by injection T
    refine yw rfl (yr (st0:=⟨[(35,sgsA run),(37,.ifb (β 3) (chsA F)),(38,.ifb (β 4) (iv (i:Int))),(39,.ifb (β 5) (.ept zb7 f 0)),(40,.ifb (β 6) (zp f)),(41,.ifb (β 7) (iv (k:Int))),(42,.ifb (β 8) (.ept sgsE s 0)),(43,.ifb (β 9) (sgsA s)),(1,tmsA D),(2,chsA F),(3,iv (i:Int)),(4,sgsA run),(5,.ptr 5 0 0 0),(12,iv (k:Int)),(34,.own 34)],[(5,.box (mnE m) 23),(34,.row sgE ([]) 90 17)]⟩) (ym) ?_);refine yC.imp (zv rfl rfl rfl SlK.h TiK.h (by decide) (by decide) (λ_=>rfl) (λ_=>rfl) (by first|omega|(simp;done)|(simp;omega)|(simp_all;omega)) rfl) (ym)
   ·obtain rfl:(10,[4,3,5,7,6,8,1,0,9,2])=c:=by injection T
    refine yw rfl (yr (st0:=⟨[(35,sgsA run),(37,chsA F),(38,iv (i:Int)),(39,.ept zb7 f 0),(40,zp f),(41,iv (k:Int)),(42,.ept sgsE s 0),(43,sgsA s),(1,tmsA D),(2,chsA F),(3,iv (i:Int)),(4,sgsA run),(5,.ptr 5 0 0 0),(12,iv (k:Int)),(36,.own 34)],[(5,.box (mnE m) 23),(34,.row sgE ([]++run) 90 17)]⟩) (ym) ?_);refine yC.imp (zv rfl rfl rfl SlK.h TiK.h (by decide) (by decide) (λ_=>rfl) (λ_=>rfl) (by first|omega|(simp;done)|(simp;omega)|(simp_all;omega)) rfl) (ym)
   ·obtain rfl:(11,[9,8,7,6,5,4,3,2,1,0,10])=c:=by injection T
    refine yw rfl (yr (st0:=⟨[(35,sgsA run),(37,chsA F),(38,iv (i:Int)),(39,.ept zb7 f 0),(40,zp f),(41,iv (k:Int)),(42,.ept sgsE s 0),(43,sgsA s),(1,tmsA D),(2,chsA F),(3,iv (i:Int)),(4,sgsA run),(5,.ptr 5 0 0 0),(12,iv (k:Int)),(44,.own 34)],[(5,.box (mnE m) 23),(34,.row sgE ([]++run++s) 90 17)]⟩) (ym) ?_);refine yC.imp (yS (k7 (zcs rfl)) rfl rfl) (ym)
   simp_all
  apply yf;refine kJ (k9 (k:=34) rfl) ?_;refine gc (ih (F.length-(i+1)) (by omega) (i+1) (run++s) rfl (by omega) (by grind)) ?_;refine gd ?_ ?_<;>intro J
  ·have I:=wS.1 J;obtain⟨x,hx⟩:=I;have V:srV m D (F.drop i) run=some x:=by rw[Z];exact zme (by rw[zn8 hs U,hx])
   have H:=zv0 V;have w2:=zv0 hx;refine gq ?_;refine yh ?_ ?_;all_goals simp_all
  have v9:(f.take (k+1)).findSome? (λs=>srV m D (F.drop (i+1)) (run++s))=none:=by simp_all[zn8]
  refine gq ?_
  refine yo (k+1) (hJ:=by
   grind) (hI:=yg)
 ·obtain rfl:k=f.length:=by omega
  have V:srV m D (F.drop i) run=none:=by rw[Z];exact zob U
  have H:fiV m D (F.drop i) run=[]:=by rw[Z];rw[Z]at V;exact zCt m D f _ run V
  apply kK;apply ye;refine yL ?_;refine kE ?_;refine k8 (yd (ts:=[(10,sgsA []),(11,.bool false)]) (hs:=[])) ?_;refine yh ?_ ?_;all_goals simp_all
set_option maxHeartbeats 1000000 in
def zd7(m:Mn)(l:List Bt)(h:Hb)(hl:l.length<=4000000000):Fn prog 86 [mnA m,btsA l,hbA h] (.tup [chsA (afV m l h),iv (afE m l h)]):=by
 have H:[]=chV m (l.take 0) h:=by unfold chV;rfl
 refine kC func86 ntmps86 (λg w d=>?_);refine gc (zO m l h (by omega)) ?_;refine gd ?_ ?_<;>intro V
 ·have U:=zv1 (h:=h) V;obtain⟨hE,T⟩:=U;apply ye;refine yq ?_;refine kE ?_;refine k8 (yd (ts:=[(6,chsA []),(7,iv (wcnE m l h))]) (hs:=[])) ?_;refine yh ?_ ?_;all_goals simp_all
 refine gd ?_ ?_<;>intro Z
 ·have Q:=zyk (h:=h) (show wcnE m l h=0 by omega) Z;obtain⟨hE,T⟩:=Q;apply ye;refine yL ?_;refine kE ?_;refine k8 (yd (ts:=[(6,chsA []),(7,iv 18)]) (hs:=[])) ?_;refine yh ?_ ?_;all_goals simp_all
 have N:=zyl (h:=h) (show wcnE m l h=0 by omega) Z;obtain⟨hE,T⟩:=N;have hw:=zuU (show wcnE m l h=0 by omega);have E:=zlb (show wcnE m l h=0 by omega);apply yl;apply ye;refine yi ?_;iterate 2 apply yf
 refine kJ (yE zb7 56 1 10 30 rfl rfl) ?_;apply yj;refine yi ?_;apply kA;refine ze (λk=>[(1,btsA l),(3,.ptr 3 0 0 0),(5,.ptr 5 0 0 0),(10,.own 30),(11,iv (k:Int))]) (λk=>[(3,.box (mnE m) 23),(5,.box (hbE h) 32),(30,.row zb7 (chV m (l.take k) h) 56 1)]) l.length (λk hk=>?_);refine gd ?_ ?_<;>intro xT
 ·obtain⟨b,I⟩:∃b,l[k]? =some b:=⟨_,lgg (by omega)⟩;have x4:l[(k:Int).toNat]? =some b:=by simpa using I
  have hs:=zrm (m:=m) (h:=h) I;have x3:(chV m (l.take k) h).length<=1000000:=by grind[zei]
  have J:Fn prog 75 [mnA m,btA b,hbA h] (.tup [zp (frV m b h),iv 0]):=by grind[za9,zlc,fmV]
  refine gq ?_;refine yQ [12,13,32,33,34,35,36,37,38,39,40,41] [0,0,0,6,14,0,63,127,255,255,511,2047] mo ?_;iterate 6 refine yb ?_
  refine yI J ?_;iterate 5 refine yb ?_
  refine yx ?_;refine gq ?_;refine yz zb7 [frV m b h] ?_;refine gq ?_;refine yo (k+1) (hI:=yg)
 ·obtain rfl:k=l.length:=by omega
  have hT:chV m (l.take l.length) h=afV m l h:=by simp_all
  apply kK;apply ye;refine yq ?_;refine kE ?_;refine k8 (k9 (k:=30) rfl) ?_;refine yh ?_ ?_;all_goals(first|exact zE T|exact zE hE|exact j6 (λz=>chsA z) hT|exact j6 (AV.int .i64) hE.symm)
set_option maxHeartbeats 1000000 in
def zfH(m:Mn)(l:List Bt)(h:Hb)(hl:l.length<=4000000000):Fn prog 25 [mnA m,btsA l,hbA h] (.tup [sgsA (wrV m l h),iv (wrE m l h)]):=by
 refine kC func25 ntmps25 (λg w d=>?_);refine gc (zd7 m l h hl) ?_;refine gd ?_ ?_<;>intro Q
 ·have N:=zCu Q;obtain⟨hE,Z⟩:=N;apply ye;refine yq ?_;refine kE ?_;refine k8 (yd (ts:=[(6,sgsA []),(7,iv (afE m l h))]) (hs:=[])) ?_;refine yh ?_ ?_;all_goals(first|exact zE Z|exact zE hE|(rw[Z,T];rfl)|(rw[hE,T];rfl))
 have J:=zCv (show afE m l h=0 by omega);obtain⟨hE,Z⟩:=J;have hok:=zym (show afE m l h=0 by omega);have V:=zgb m (durB l) _ (afV m l h) 0 [] rfl (wH _) hok.1 hok.2.1 hok.2.2;rw[List.drop_zero]at V;refine gq ?_;refine yQ [10,11,22,23,24,25,26,27,28,29] [0,0,2,0,15,31,63,63,127,511] mo ?_;iterate 2 refine yb ?_
 refine yI (zbw l hl) ?_;refine yb ?_;refine ChM.step rfl rfl rfl (zau rfl rfl rfl (.cons (kU _) (.cons (kU _) (.cons (kU _) (.cons (kU _) (.cons (kO _) .nil))))) V) rfl ?_;iterate 5 refine yb ?_
 refine yx ?_;refine gd ?_ ?_<;>intro U
 ·have T:srV m (durB l) (afV m l h) []=none:=by simpa using U
  apply ye;refine yL ?_;refine kE ?_;refine k8 (yd (ts:=[(6,sgsA []),(7,iv 18)]) (hs:=[])) ?_;refine yh ?_ ?_;all_goals(first|exact zE Z|exact zE hE|(rw[Z,T];rfl)|(rw[hE,T];rfl))
 have I:=wS.1 (show(srV m (durB l) (afV m l h) []).isSome=true by simpa using U);obtain⟨x,hx⟩:=I;have H:=zv0 hx;refine gq ?_;refine yh ?_ ?_;all_goals simp_all
end
section
def zsv(m:Mn)(l:List Bt)(h:Hb):(wrV m l h).length<=24:=by
 by_cases c:wcnE m l h=0
 ·have Z:=zlb c;unfold wrV;rw[j4 c];split
  ·simp
  ·cases hx:wrO m l h with
   |none=>simp
   |some x=>
    unfold wrO at hx;have:=(zk9 (n:=2) (λF V=>(zni m l h F V).2) hx).2;rw[zei]at this;simp only[u4,uQ]at*
    omega
 ·rw[(zyu c).2];simp
attribute [local irreducible] Pur yA yC Ex X Fn Imp LeV LeB FnO It yH FnW FnOW FnP FnD
attribute [local irreducible] wcnE wcnV wrE wrV
set_option maxHeartbeats 4000000 in
def C_tactuslaw23_WriteWrites(m:Mn)(l:List Bt)(h:Hb)(hl:l.length<=9223372036854775807):Fn prog 5 [mnA m,btsA l,hbA h] (.bool true):=by
 refine kC func5 ntmps5 (λg w d=>?_);refine gq ?_;refine yM (zO m l h hl) ?_;iterate 2 refine ya ?_
 refine yq ?_;apply yf;apply ye;iterate 3 refine ya ?_
 refine kG 3 ?_;refine yn ?_;iterate 2 refine kF ?_
 refine gf ?_ ?_<;>intro V
 ·apply ye;refine gc zcz ?_;all_goals(first|rfl|simp)
 have Z:l.length<=40:=by omega
 have U:=zsv m l h;refine gc (zgJ l (by omega)) ?_;refine gc (zfT m l h (by omega)) ?_;refine gc (zfH m l h (by omega)) ?_;refine yM (y6 (wrV m l h) (wrV m l h) (by omega)) ?_;refine kG 3 ?_;refine gq ?_;refine kQ (zcY l l (by omega)) ?_;refine gq ?_;refine kQ zcz ?_;refine ge ?_;all_goals(first|rfl|simp)
end
end Go.Rse
