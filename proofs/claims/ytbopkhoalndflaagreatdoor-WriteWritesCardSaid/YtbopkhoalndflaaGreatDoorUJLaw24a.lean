/-
  Walks.
-/
import Derived.Test.YtbopkhoalndflaaGreatDoorUJWrs4
set_option linter.all false
namespace Go.Rse
open Go Go.Proofs Go.Proofs.Tryz
section
abbrev mOh:Mn:=⟨2,2,3,2⟩
abbrev mCe:Mn:=⟨2,2,2,2⟩
def btT(t:Tm):Bt:=⟨t,false⟩
def hbM(n:Int):Hb:=⟨decide (4<=n),decide (2<=Int.tmod n 4),decide (Int.tmod n 2=1)⟩
abbrev npS(v:Int):Sg:=⟨1,v,4,0,false,0,false,false,⟨0,0,0,0⟩,false,0,0,0,0⟩
abbrev nbS(v:Int):Sg:=⟨1,v,4,0,true,0,false,false,⟨0,0,0,0⟩,false,0,0,0,0⟩
abbrev dtS:Sg:=⟨3,0,0,0,false,0,false,false,⟨0,0,0,0⟩,false,0,0,0,0⟩
def zyn{l:List Tm}{k:Nat}{x:Tm}(h:l[k]? =some x):(l.take k).map btT++[⟨x,false⟩]=(l.take (k+1)).map btT:=by
 rw[jA,h];simp[btT]
def zsw{α β:Type}(f:α->β)(l:List α)(k:Nat):((l.take k).map f).length<=l.length:=by rw[jO,jL];omega
def zla{α:Type}{l:List α}{k:Nat}{x:α}(h:l[k]? =some x):l.take k++[x]=l.take (k+1):=by rw[jA,h];rfl
attribute [local irreducible] Pur yA yC Ex X Fn Imp LeV LeB FnO It yH FnW FnOW FnP FnD
attribute [local irreducible] wcE wcnE wlV rdE rdV bsV beE beV
def zhr:Fn prog 58 [] (mnA mOh):=by
 refine kC func58 ntmps58 (λg w d=>?_);refine gq ?_;refine kH (.one (.cellA rfl rfl rfl rfl ty23 (kB ?_)));all_goals exact zR
def zdQ:Fn prog 60 [] (mnA mCe):=by
 refine kC func60 ntmps60 (λg w d=>?_);refine gq ?_;refine kH (.one (.cellA rfl rfl rfl rfl ty23 (kB ?_)));all_goals exact zR
def zy(v:Int):Fn prog 59 [iv v] (sgA (npS v)):=by
 refine kC func59 ntmps59 (λg w d=>?_);refine gq ?_;refine kH (.one (.cellA rfl rfl rfl rfl ty90 (kB ?_)));all_goals exact zR
def za4(v:Int):Fn prog 61 [iv v] (sgA (nbS v)):=by
 refine kC func61 ntmps61 (λg w d=>?_);refine gq ?_;refine kH (.one (.cellA rfl rfl rfl rfl ty90 (kB ?_)));all_goals exact zR
def zbJ:Fn prog 62 [] (sgA dtS):=by
 refine kC func62 ntmps62 (λg w d=>?_);refine gq ?_;refine kH (.one (.cellA rfl rfl rfl rfl ty90 (kB ?_)));all_goals exact zR
def zh5(n e:Int)(h0:0<=n)(Z:1<=e)(V:n<=4294967296)(U:e<=4294967296):Fn prog 56 [iv n,iv e] (tmA ⟨n/gI n e,e/gI n e⟩):=by
 refine kC func56 ntmps56 (λg w d=>?_);refine gc (zfS n e (by omega) (by omega)) ?_;refine kH (.one (.cellA rfl rfl rfl rfl ty83 (kB ?_)));all_goals exact zR
def zcq(n:Int):Fn prog 114 [iv n] (hbA (hbM n)):=by
 refine kC func114 ntmps114 (λg w d=>?_);refine gq ?_;refine kH (.one (.cellA rfl rfl rfl rfl ty32 (kB ?_)));all_goals exact zR
def zbt(a b:List Bt)(hl:a.length<=4000000000):Fn prog 40 [btsA a,btsA b] (.bool (decide (a=b))):=by
 refine kC func40 ntmps40 (λg w d=>?_);refine gd ?_ ?_<;>intro N
 ·have U:decide (a=b)=false:=by rw[jP];intro h;subst h;exact N rfl
  refine gq ?_;all_goals rw[U]
 have T:a.length=b.length:=by omega
 apply yl;apply yf;apply ye;refine yi ?_;apply kA;refine zV (λk=>[(0,btsA a),(1,btsA b),(5,iv (k:Int))]) (λk=>[]) (λk=>k<=a.length/\a.take k=b.take k) a.length (λk J=>?_) (hJ:=by exact⟨by omega,by simp⟩);obtain⟨I,Z⟩:=J;refine gd ?_ ?_<;>intro H
 ·obtain⟨x,hx⟩:∃x,a[k]? =some x:=⟨_,lgg (by omega)⟩;have E:a[(k:Int).toNat]? =some x:=by simpa using hx
  obtain⟨y,V⟩:∃y,b[k]? =some y:=⟨_,lgg (by omega)⟩;have xT:b[(k:Int).toNat]? =some y:=by simpa using V
  refine gq ?_;refine yQ [17,18,19,20,21,22,23,24,25] [0,0,3,7,0,0,48,112,255] mo ?_;iterate 8 refine yb ?_
  refine yb ?_ (hs:=by exact zbd (ziu _ _) inferInstance TyK.h rfl rfl rfl rfl rfl);refine yx ?_;refine gd ?_ ?_<;>intro Q
  ·have U:decide (a=b)=false:=by rw[jP];intro h;subst h;rw[hx]at V;injection V with V;exact(by simpa using Q:¬x=y) V
   refine gq ?_;all_goals rw[U]
  refine gq ?_;refine yo (k+1) (hJ:=by exact⟨by omega,by rw[←zla hx,←zla V,Z,(by simpa using Q:x=y)]⟩) (hI:=yg)
 ·have U:decide (a=b)=true:=by
   have h1:k=a.length:=by omega
   rw[jT];subst h1;rw[j9,T,j9]at Z;exact Z
  refine gq ?_;all_goals rw[U]
def zbK(a b:List (List Sg))(hl:a.length<=4000000000)(hr:∀x∈a,x.length<=4000000000):Fn prog 39 [zp a,zp b] (.bool (decide (a=b))):=by
 refine kC func39 ntmps39 (λg w d=>?_);refine gd ?_ ?_<;>intro N
 ·have U:decide (a=b)=false:=by rw[jP];intro h;subst h;exact N rfl
  refine gq ?_;all_goals rw[U]
 have T:a.length=b.length:=by omega
 apply yl;apply yf;apply ye;refine yi ?_;apply kA;refine zV (λk=>[(0,zp a),(1,zp b),(5,iv (k:Int))]) (λk=>[]) (λk=>k<=a.length/\a.take k=b.take k) a.length (λk I=>?_) (hJ:=by exact⟨by omega,by simp⟩);obtain⟨H,Z⟩:=I;refine gd ?_ ?_<;>intro E
 ·obtain⟨x,hx⟩:∃x,a[k]? =some x:=⟨_,lgg (by omega)⟩;have xT:a[(k:Int).toNat]? =some x:=by simpa using hx
  obtain⟨y,V⟩:∃y,b[k]? =some y:=⟨_,lgg (by omega)⟩;have x4:b[(k:Int).toNat]? =some y:=by simpa using V
  have J:=hr x (j5 hx);refine gq ?_;refine yQ [17,18,19,20,21,22,23,24,25,26] [0,0,3,7,0,0,48,112,255,511] mo ?_;iterate 8 refine yb ?_
  refine yI (y6 x y J) ?_;refine yb ?_;refine yx ?_;refine gd ?_ ?_<;>intro Q
  ·have U:decide (a=b)=false:=by rw[jP];intro h;subst h;rw[hx]at V;injection V with V;exact(by simpa using Q:¬x=y) V
   refine gq ?_;all_goals rw[U]
  refine gq ?_;refine yo (k+1) (hJ:=by exact⟨by omega,by rw[←zla hx,←zla V,Z,(by simpa using Q:x=y)]⟩) (hI:=yg)
 ·have U:decide (a=b)=true:=by
   have h1:k=a.length:=by omega
   rw[jT];subst h1;rw[j9,T,j9]at Z;exact Z
  refine gq ?_;all_goals rw[U]
def zcA(l:List Tm)(hl:l.length<=1000):Fn prog 55 [tmsA l] (btsA (l.map btT)):=by
 have Z:[]=(l.take 0).map btT:=by simp
 refine kC func55 ntmps55 (λg w d=>?_);apply ye;refine ya ?_;apply yG;refine yi ?_;iterate 2 apply yf
 refine kJ (yE btE 100 3 3 30 rfl rfl) ?_;apply yj;refine yi ?_;apply kA;refine ze (λk=>[(0,tmsA l),(3,.own 30),(4,iv (k:Int))]) (λk=>[(30,.row btE ((l.take k).map btT) 100 3)]) l.length (λk J=>?_);refine gd ?_ ?_<;>intro V
 ·obtain⟨x,hx⟩:∃x,l[k]? =some x:=⟨_,lgg (by omega)⟩;have U:l[(k:Int).toNat]? =some x:=by simpa using hx
  have T:=zyn hx;have Q:=zsw btT l k;refine gq ?_;refine yz btE [⟨x,false⟩] ?_;refine gq ?_;refine yo (k+1) (hI:=yg)
 ·obtain rfl:k=l.length:=by omega
  have N:(l.take l.length).map btT=l.map btT:=by rw[j9]
  apply kK;apply ye;refine yL ?_;refine kE ?_;refine k8 (k9 (k:=30) rfl) ?_;refine gq ?_;all_goals(exact j6 (λz=>btsA z) N)
set_option maxHeartbeats 1000000 in
def zeu(m:Mn)(z:List Bt)(n:Int)(W:List (List Sg))(hl:z.length<=4000000000)(Z:(wlV m z (hbM n)).length<=4000000000)(hr:∀x∈wlV m z (hbM n),x.length<=4000000000):Fn prog 57 [mnA m,btsA z,iv n,zp W] (.bool (decide (wcnE m z (hbM n)=0)&&decide (wlV m z (hbM n)=W))):=by
 refine kC func57 ntmps57 (λg w d=>?_);refine gq ?_;refine yQ [9,10,11,12,13,14,15,16,17,18] [0,0,0,4,15,31,63,63,127,511] mo ?_;iterate 3 refine yb ?_
 refine yI (zcq n) ?_;refine yI (zbT m z (hbM n) hl) ?_;iterate 5 refine yb ?_
 refine yx ?_;apply yG;iterate 2 refine ya ?_
 refine kG 2 ?_;refine gq ?_;refine kQ (zbK (wlV m z (hbM n)) W Z hr) ?_;refine ge ?_;all_goals exact zR
end
section
def zoa(a b:Hb):eqL (hbE a) (hbE b)=some (decide (a=b)):=by
 cases a;cases b;refine(y5 rfl (y5 rfl (y5 rfl rfl))).trans ?_;simp only[Hb.mk.injEq,Bool.decide_and,u7,Bool.and_true,vQ]
def zsx(m:Mn)(z:List Bt):(miV m z).length<=8:=by
 unfold miV;split
 ·exact zhc m z 8
 ·simp
def ndQ(m:Mn)(z:List Bt)(W:List Int):Bool:=decide (wcnE m z (hbN 7)=0)&&decide (miV m z=W.map hbM)
def zCw{m:Mn}{z:List Bt}{W:List Int}(h:¬wcnE m z (hbN 7)=0\/¬((miV m z).length:Int)=(W.length:Int)):ndQ m z W=false:=by
 unfold ndQ;rcases h with h|h
 ·rw[jD h];rfl
 ·rw[jD (p:=miV m z=W.map hbM) (λe=>h (by rw[e,jO])),Bool.and_false]
def zCx{m:Mn}{z:List Bt}{W:List Int}{k:Nat}{x:Hb}{y:Int}(hx:(miV m z)[k]? =some x)(Z:W[k]? =some y)(h:¬x=hbM y):ndQ m z W=false:=by
 unfold ndQ;rw[jD (p:=miV m z=W.map hbM) (λe=>by rw[e,jJ,Z]at hx;injection hx with hx;exact h hx.symm),Bool.and_false]
def zCy{m:Mn}{z:List Bt}{W:List Int}(h0:wcnE m z (hbN 7)=0)(h:(miV m z).length=W.length)(Z:(miV m z).take (miV m z).length=(W.take (miV m z).length).map hbM):ndQ m z W=true:=by
 unfold ndQ;rw[j9,h,j9]at Z;rw[h0,Z];simp
def zCz{a:List Hb}{W:List Int}{k:Nat}{x:Hb}{y:Int}(hx:a[k]? =some x)(Z:W[k]? =some y)(h:a.take k=(W.take k).map hbM)(e:x=hbM y):a.take (k+1)=(W.take (k+1)).map hbM:=by
 rw[jA,hx,jA,Z,xD,h,e];rfl
attribute [local irreducible] Pur yA yC Ex X Fn Imp LeV LeB FnO It yH FnW FnOW FnP FnD
attribute [local irreducible] miV hbM hbN wcnE ndQ
set_option maxHeartbeats 1000000 in
def zfI(m:Mn)(z:List Bt)(W:List Int)(hl:z.length<=4000000000):Fn prog 63 [mnA m,btsA z,yc W] (.bool (ndQ m z W)):=by
 have J:=zsx m z;refine kC func63 ntmps63 (λg w d=>?_);refine gq ?_;refine yM (zdi m z hl) ?_;iterate 2 refine ya ?_
 refine yq ?_;apply yf;apply ye;iterate 2 refine ya ?_
 refine kG 2 ?_;refine yn ?_;iterate 5 refine kF ?_
 refine gf ?_ ?_<;>intro Z
 ·have V:=zCw (m:=m) (z:=z) (W:=W) (by simpa using Z);refine gq ?_;all_goals rw[V]
 have hE:wcnE m z (hbN 7)=0/\((miV m z).length:Int)=(W.length:Int):=by simpa using Z
 have U:(miV m z).length=W.length:=by omega
 apply yl;apply yf;apply ye;refine yi ?_;apply kA;refine zV (λk=>[(2,yc W),(7,.sl hbE (miV m z)),(9,iv (k:Int))]) (λk=>[]) (λk=>k<=(miV m z).length/\(miV m z).take k=(W.take k).map hbM) ((miV m z).length) (λk I=>?_) (hJ:=by exact⟨by omega,by simp⟩);obtain⟨H,T⟩:=I;refine gd ?_ ?_<;>intro E
 ·obtain⟨x,hx⟩:∃x,(miV m z)[k]? =some x:=⟨_,lgg (by omega)⟩;have xT:(miV m z)[(k:Int).toNat]? =some x:=by simpa using hx
  obtain⟨y,N⟩:∃y,W[k]? =some y:=⟨_,lgg (by omega)⟩;have x4:W[(k:Int).toNat]? =some y:=by simpa using N
  refine gq ?_;refine yQ [31,32,33,34,35,36,37,38,39,40] [0,0,3,7,0,0,48,112,240,511] mo ?_;iterate 8 refine yb ?_
  refine yI (zcq y) ?_;refine yb ?_ (hs:=by exact zbd (zoa _ _) inferInstance TyK.h rfl rfl rfl rfl rfl);refine yx ?_;refine gd ?_ ?_<;>intro Q
  ·have V:=zCx hx N (by simpa using Q);refine gq ?_;all_goals rw[V]
  refine gq ?_;refine yo (k+1) (hJ:=by exact⟨by omega,zCz hx N T (by simpa using Q)⟩) (hI:=yg)
 ·obtain rfl:k=(miV m z).length:=by omega
  have V:=zCy hE.1 U T;refine gq ?_;all_goals rw[V]
end
section
def wr24(m:Mn)(l:List Tm)(n:Int)(W:List (List Sg)):Bool:=decide (wcnE m (l.map btT) (hbM n)=0)&&decide (wlV m (l.map btT) (hbM n)=W)
abbrev tMi:List Tm:=[⟨3,2⟩,⟨1,2⟩]
abbrev W1:List (List Sg):=[[npS 3,npS 4,npS 3]]
abbrev W2:List (List Sg):=[[nbS 4,nbS 5],[npS 5,dtS,npS 6],[npS 5,dtS,nbS 6,dtS]]
def zyo:wr24 mOh [⟨4,1⟩,⟨2,1⟩,⟨6,1⟩] 0 W1=true:=by kernel_rfl
def zyp:wr24 mCe tMi 7 W2=true:=by kernel_rfl
def zyq:ndQ mCe (tMi.map btT) [2,4]=true:=by kernel_rfl
end
section
attribute [local irreducible] Pur yA yC Ex X Fn Imp LeV LeB FnO It yH FnW FnOW FnP FnD
attribute [local irreducible] wcnE wlV hbM ndQ btT gI
def zmh(n e:Int)(t:Tm)(h:(decide (0<=n)&&(decide (1<=e)&&(decide (n<=4294967296)&&(decide (e<=4294967296)&&decide ((⟨n/gI n e,e/gI n e⟩:Tm)=t)))))=true):Fn prog 56 [iv n,iv e] (tmA t):=by
 simp only[j7,jT]at h;obtain⟨a,b,c,d,e'⟩:=h;have:=zh5 n e a b c d;rw[e']at this;exact this
def zqk{m:Mn}{l:List Tm}{n:Int}{W:List (List Sg)}(e:wr24 m l n W=true)(hl:l.length<=1000):Fn prog 57 [mnA m,btsA (l.map btT),iv n,zp W] (.bool true):=by
 unfold wr24 at e;have e2:=e;rw[j7,jT,jT]at e2;have Z:=zjt e2.1;have c:=zeu m (l.map btT) n W (by rw[jO];omega) (by omega) (λx hx=>by have:=Z.2 x hx;omega);rw[e]at c;exact c
def zv4{m:Mn}{l:List Tm}{W:List Int}(e:ndQ m (l.map btT) W=true)(hl:l.length<=1000):Fn prog 63 [mnA m,btsA (l.map btT),yc W] (.bool true):=by
 have c:=zfI m (l.map btT) W (by rw[jO];omega);rw[e]at c;exact c
set_option maxHeartbeats 4000000 in
set_option maxRecDepth 100000 in
def zj:Fn prog 12 [] (.bool true):=by
 refine kC func12 ntmps12 (λg w d=>?_);refine gq ?_;refine yM (zmh 3 2 ⟨3,2⟩ (by kernel_rfl)) ?_;refine yM (zmh 1 2 ⟨1,2⟩ (by kernel_rfl)) ?_;refine kS (yF (enc:=tmE) (l:=tMi) sl50 ty83 ze83 (by decide) rfl rfl rfl rfl (by decide) (by decide) (λ_=>rfl) rfl) rfl rfl ?_;refine gc (zcA tMi (by decide)) ?_;refine yM zhr ?_;refine yM (zmh 4 1 ⟨4,1⟩ (by kernel_rfl)) ?_;refine yM (zmh 2 1 ⟨2,1⟩ (by kernel_rfl)) ?_;refine yM (zmh 6 1 ⟨6,1⟩ (by kernel_rfl)) ?_;refine kS (yF (enc:=tmE) (l:=[⟨4,1⟩,⟨2,1⟩,⟨6,1⟩]) sl50 ty83 ze83 (by decide) rfl rfl rfl rfl (by decide) (by decide) (λ_=>rfl) rfl) rfl rfl ?_;refine yM (zcA [⟨4,1⟩,⟨2,1⟩,⟨6,1⟩] (by decide)) ?_;refine yM (zy 3) ?_;refine yM (zy 4) ?_;refine yM (zy 3) ?_;refine kS (yF (enc:=sgE) (l:=[npS 3,npS 4,npS 3]) sl33 ty90 ze90 (by decide) rfl rfl rfl rfl (by decide) (by decide) (λ_=>rfl) rfl) rfl rfl ?_;refine kS (yF (enc:=sgsE) (l:=W1) sl56 ty33 ze33 (by decide) rfl rfl rfl rfl (by decide) (by decide) (λ_=>rfl) rfl) rfl rfl ?_;refine yM (zqk zyo (by decide)) ?_;refine kG 12 ?_;refine gq ?_;refine kQ zdQ ?_;refine gq ?_;refine kQ (za4 4) ?_;refine kQ (za4 5) ?_;refine ExF.gs (yF (enc:=sgE) (l:=[nbS 4,nbS 5]) sl33 ty90 ze90 (by decide) rfl rfl rfl rfl (by decide) (by decide) (λ_=>rfl) rfl) ?_;refine kQ (zy 5) ?_;refine kQ zbJ ?_;refine kQ (zy 6) ?_;refine ExF.gs (yF (enc:=sgE) (l:=[npS 5,dtS,npS 6]) sl33 ty90 ze90 (by decide) rfl rfl rfl rfl (by decide) (by decide) (λ_=>rfl) rfl) ?_;refine kQ (zy 5) ?_;refine kQ zbJ ?_;refine kQ (za4 6) ?_;refine kQ zbJ ?_;refine ExF.gs (yF (enc:=sgE) (l:=[npS 5,dtS,nbS 6,dtS]) sl33 ty90 ze90 (by decide) rfl rfl rfl rfl (by decide) (by decide) (λ_=>rfl) rfl) ?_;refine ExF.gs (yF (enc:=sgsE) (l:=W2) sl56 ty33 ze33 (by decide) rfl rfl rfl rfl (by decide) (by decide) (λ_=>rfl) rfl) ?_;refine kQ (zqk zyp (by decide)) ?_;refine gq ?_;refine kQ zdQ ?_;refine gq ?_;refine ExF.gs (yF (enc:=intE) (l:=[2,4]) sl46 ty3 ze3 (by decide) rfl rfl rfl rfl (by decide) (by decide) (λ_=>rfl) rfl) ?_;refine kQ (zv4 zyq (by decide)) ?_;refine ge ?_;all_goals(first|rfl|simp)
end
section
attribute [local irreducible] Pur yA yC Ex X Fn Imp LeV LeB FnO It yH FnW FnOW FnP FnD
attribute [local irreducible] wcnE wlV hbM ndQ btT gI beE beV rdE bsV unE2 unV2 skE skB
end
section
def ltQ(m:Mn)(z:List Bt):Bool:=decide (z.length<=20)&&(!decide (wcnE m z (hbM 7)=15)&&decide (wcnV m z (hbM 7)<=300))
def clN(l:List Sg):Nat:=(l.filter λs=>decide (s.Kind=1)&&s.Color).length
def zCA{a:Prop}[Decidable a]{b:Bool}(h:¬a\/b=false):¬(decide a&&b)=true:=by
 intro e;rw[j7,jT]at e;rcases h with h|h
 ·exact h e.1
 ·rw[e.2]at h;cases h
def zyr{l:List Sg}{k:Nat}{s:Sg}(h:l[k]? =some s):clN (l.take (k+1))=clN (l.take k)+if(decide (s.Kind=1)&&s.Color)=true then 1 else 0:=by
 unfold clN;rw[jA,h,wR,jI];by_cases c:(decide (s.Kind=1)&&s.Color)=true<;>simp[c]
def zv5(l:List Sg)(k:Nat):clN (l.take k)<=l.length:=by
 unfold clN;have:=wF (λs:Sg=>decide (s.Kind=1)&&s.Color) (l.take k);rw[jL]at this;omega
attribute [local irreducible] Pur yA yC Ex X Fn Imp LeV LeB FnO It yH FnW FnOW FnP FnD
attribute [local irreducible] wcnE wcnV hbM clN
def zaX(n:Int):Fn prog 54 [iv n] (hbA (hbM n)):=by
 refine kC func54 ntmps54 (λg w d=>?_);refine gq ?_;refine kH (.one (.cellA rfl rfl rfl rfl ty32 (kB ?_)));all_goals(unfold hbM;rfl)
def za5(m:Mn)(z:List Bt)(hl:z.length<=4000000000):Fn prog 11 [mnA m,btsA z] (.bool (ltQ m z)):=by
 refine kC func11 ntmps11 (λg w d=>?_);refine gd ?_ ?_<;>intro V
 ·have Z:ltQ m z=false:=by unfold ltQ;rw[jD (by omega)];rfl
  refine gq ?_;all_goals exact zE Z
 have Z:ltQ m z=(!decide (wcnE m z (hbM 7)=15)&&decide (wcnV m z (hbM 7)<=300)):=by unfold ltQ;rw[jH (by omega),wZ]
 refine gq ?_;refine yQ [5,6,10,11,12,13,14,15,16] [0,0,0,7,15,31,31,63,255] mo ?_;iterate 2 refine yb ?_
 refine yI (zaX 7) ?_;refine yI (zO m z (hbM 7) (by omega)) ?_;iterate 5 refine yb ?_
 refine yx ?_;apply yG;iterate 2 refine ya ?_
 refine kG 2 ?_;refine yn ?_;iterate 2 refine kF ?_
 refine ge ?_;all_goals exact zE Z
set_option maxHeartbeats 1000000 in
def zcB(l:List Sg)(hl:l.length<=4000000000):Fn prog 100 [sgsA l] (iv ((clN l:Nat):Int)):=by
 have U:(0:Int)=((clN (l.take 0):Nat):Int):=by unfold clN;rfl
 refine kC func100 ntmps100 (λg w d=>?_);apply ye;refine ya ?_;apply yG;refine yi ?_;apply yf;apply ye;refine yi ?_;apply kA;refine ze (λk=>[(0,sgsA l),(3,iv ((clN (l.take k):Nat):Int)),(4,iv (k:Int))]) (λk=>[]) l.length (λk I=>?_);refine gd ?_ ?_<;>intro T
 ·obtain⟨s,hs⟩:∃s,l[k]? =some s:=⟨_,lgg (by omega)⟩;have Q:l[(k:Int).toNat]? =some s:=by simpa using hs
  have N:=zv5 l k;have Z:=zyr hs;apply yl;apply yf;apply kA;apply ye;iterate 6 refine ya ?_
  refine kG 6 ?_;refine yn ?_;iterate 5 refine kF ?_
  refine gf ?_ ?_<;>intro V
  ·rw[j4 (by simpa using V)]at Z;refine gq ?_;refine yo (k+1) (hI:=yg)
  ·rw[j3 (zCA V)]at Z;refine gq ?_;refine yo (k+1) (hI:=yg)
 ·obtain rfl:k=l.length:=by omega
  have J:clN (l.take l.length)=clN l:=by rw[j9]
  refine gq ?_;all_goals rw[J]
end
section
def zv6{α:Type}{enc:α->List AV}(o:Option (List α)):(nlA enc o).nm=true:=by cases o<;>rfl
def zys{m:Mn}{D:List Tm}{run:List Sg}(h:rdE m run=0/\(rdV m run).Durs=D):srV m D [] run=some run:=by
 unfold srV reQ;rw[j4 (by simp[h.1,h.2])]
def zyt{m:Mn}{D:List Tm}{run:List Sg}(h:¬(rdE m run=0/\(rdV m run).Durs=D)):srV m D [] run=none:=by
 unfold srV reQ;rw[j3];intro e;simp only[j7,w9]at e;exact h e
def zob{m:Mn}{D:List Tm}{r:List (List (List Sg))}{run:List Sg}{F:List (List Sg)}(h:(F.take F.length).findSome? (λf=>srV m D r (run++f))=none):srV m D (F::r) run=none:=by
 rw[j9]at h;exact h
def zql{m:Mn}{D:List Tm}{C:List (List (List Sg))}{run:List Sg}(V:∀F∈C,F.length<=32/\∀f∈F,1<=f.length/\f.length<=2)(h:0<run.length+C.length):∀x,srV m D C run=some x->x≠[]:=λx hx e=>by
 have:=zk9 (n:=2) (λF U=>(V F U).2) hx;have Z:=this.1;rw[e]at Z;simp only[u4]at Z;omega
def zyu{m:Mn}{l:List Bt}{h:Hb}(c:¬wcnE m l h=0):wrE m l h=wcnE m l h/\wrV m l h=[]:=by
 unfold wrE wrV;rw[j3 c,j3 c];exact⟨rfl,rfl⟩
def zyv{m:Mn}{l:List Bt}{h:Hb}(c:wcnE m l h=0)(c2:l.length=0):wrE m l h=0/\wrV m l h=[]:=by
 have e:l=[]:=jQ c2;unfold wrE wrV;rw[j4 c,j4 c,j4 e,j4 e];exact⟨rfl,rfl⟩
theorem zv7{m:Mn}{l:List Bt}{h:Hb}(c:wcnE m l h=0)(c2:¬l.length=0):wrE m l h=(if(srV m (durB l) (chV m l h) []).isSome then 0 else 18)/\wrV m l h=(srV m (durB l) (chV m l h) []).getD []:=by
 have e:¬l=[]:=λe=>c2 (by rw[e];rfl)
 unfold wrE wrV wrO;rw[j4 c,j4 c,j3 e,j3 e];exact⟨rfl,rfl⟩
def zni(m:Mn)(l:List Bt)(h:Hb):∀F∈chV m l h,F.length<=32/\∀f∈F,1<=f.length/\f.length<=2:=λF Z=>⟨by
 unfold chV at Z;obtain⟨b,-,rfl⟩:=jX.1 Z;exact zfs m b h,zmg F Z⟩
def zlb{m:Mn}{l:List Bt}{h:Hb}(c:wcnE m l h=0):l.length<=12:=by
 unfold wcnE at c;split at c
 ·split at c
  ·exact absurd c (by decide)
  ·omega
 ·exact absurd c ‹_›
attribute [local irreducible] Pur yA yC Ex X Fn Imp LeV LeB FnO It yH FnW FnOW FnP FnD
attribute [local irreducible] wcE wcnE wcnV chV durB rdE rdV srV wrE wrV ckD rsL wisE wisB
set_option maxHeartbeats 1000000 in
def znj(m:Mn)(l:List Bt)(r:List Sg)(hl:l.length<=1000000)(hr:r.length<=1000):Fn prog 20 [mnA m,btsA l,sgsA r] (.tup [.bool (wisB m l r),iv (wisE m l r)]):=by
 have H:[]=rsL (r.take 0):=by unfold rsL;rfl
 refine kC func20 ntmps20 (λg w d=>?_);refine gc (zcm m l (by omega)) ?_;refine gd ?_ ?_<;>intro V
 ·have U:=zxa (r:=r) V;obtain⟨hE,Z⟩:=U;refine gq ?_;refine yh ?_ ?_;all_goals(first|exact zE Z|exact zE hE)
 have h0:wcE m l=0:=by omega
 refine gc (zaO m r hr) ?_;refine gd ?_ ?_<;>intro T
 ·have Q:=ztt h0 T;obtain⟨hE,Z⟩:=Q;refine gq ?_;refine yh ?_ ?_;all_goals(first|exact zE Z|exact zE hE)
 have N:=ztu h0 (show ckD m r=0 by omega);obtain⟨hE,Z⟩:=N;apply yl;apply ye;refine yi ?_;iterate 2 apply yf
 refine kJ (yE zbc 4 1 10 30 rfl rfl) ?_;apply yj;refine yq ?_;apply kA;refine ze (λk=>[(1,btsA l),(2,sgsA r),(3,.ptr 3 0 0 0),(10,.own 30),(26,sgsA r),(27,iv (r.length:Int)),(28,iv (k:Int))]) (λk=>[(3,.box (mnE m) 23),(30,.row zbc (rsL (r.take k)) 4 1)]) r.length (λk hk=>?_);refine gd ?_ ?_<;>intro E
 ·obtain⟨s,hs⟩:∃s,r[k]? =some s:=⟨_,lgg (by omega)⟩;have xT:r[(k:Int).toNat]? =some s:=by simpa using hs
  have x4:(rsL (r.take k)).length<=1000:=jR (zg9 _) (by rw[jL];omega);refine gd ?_ ?_<;>intro J
  ·have I:=zhD hs J;refine gq ?_;refine yz zbc [decide (s.Kind=2)] ?_;refine gq ?_;refine yo (k+1) (hI:=yg)
  ·have I:=zft hs (by omega);refine gq ?_;refine yo (k+1) (hI:=yg)
 ·obtain rfl:k=r.length:=by omega
  have x3:rsL (r.take r.length)=rsL r:=by rw[j9]
  apply kK;apply yf;refine kJ (st':=⟨[(1,btsA l),(2,sgsA r),(3,.ptr 3 0 0 0),(10,.own 30)],[(3,.box (mnE m) 23),(30,.row zbc (rsL r) 4 1)]⟩) yg ?_;refine kJ (st':=⟨[(1,btsA l),(2,sgsA r),(3,.ptr 3 0 0 0),(10,zaV (rsL r))],[(3,.box (mnE m) 23)]⟩) ((k9 (k:=30) rfl).trans yd) ?_;refine gc (zaj l (rsL r) (by omega)) ?_;refine yQ [6,7,45,46,47,48,49,50,51,52] [0,1,3,3,3,19,63,127,255,511] mo ?_;iterate 2 refine yb ?_
  iterate 3 refine kM ?_
  refine kX (zg8 l (by omega)) ?_;refine kX (zef m r (durB l) hr) ?_;iterate 3 refine yb ?_
  refine yx ?_;refine gq ?_;refine yh ?_ ?_;all_goals(first|exact zE Z|exact zE hE)
set_option maxHeartbeats 2000000 in
def ziS(m:Mn)(D:List Tm)(n:Nat)(C:List (List (List Sg)))(run:List Sg)(hn:C.length=n)(Q:∀F∈C,F.length<=32/\∀f∈F,1<=f.length/\f.length<=2)(hr:run.length+2*C.length<=1000):Fn prog 84 [mnA m,tmsA D,chsA C,sgsA run] (nlA sgE (srV m D C run)):=by
 induction n using Nat.strongRecOn generalizing C run
 rename_i n ih;refine kC func84 ntmps84 (λg w d=>?_) (hnm:=zv6 _);refine gd ?_ ?_<;>intro N
 ·obtain rfl:C=[]:=jQ (by omega);refine gc (zef m run D (by omega)) ?_;refine gd ?_ ?_<;>intro U
  ·have Z:=zys U;refine gq ?_;all_goals(rw[Z];first|done|rfl)
  have Z:=zyt (m:=m) (run:=run) (D:=D) (by rcases U with e|e;exactλq=>e q.1;exactλq=>e q.2);refine gq ?_;all_goals(rw[Z];first|done|rfl)
 obtain⟨F,r,rfl⟩:∃F r,C=F::r:=by cases C with|nil=>exact absurd rfl N|cons F r=>exact⟨F,r,rfl⟩
 have x2:(F::r)[(0:Int).toNat]? =some F:=rfl;have J:=Q F (by simp);apply yl;iterate 2 apply yf
 refine zzo 3 1000003 (λAd c I=>?_);apply yj;iterate 2 refine ya ?_
 refine yq ?_;apply kA;refine zV (λk=>[(1,tmsA D),(2,chsA (F::r)),(3,.val (.slice Ad run.length c)),(4,.ptr 4 0 0 0),(22,zp F),(23,iv (F.length:Int)),(24,iv (k:Int))]) (λk=>[(4,.box (mnE m) 23),(1000003,.hold [.slice Ad run.length c] [sgsA run])]) (λk=>k<=F.length/\(F.take k).findSome? (λf=>srV m D r (run++f))=none) F.length (λk hk=>?_) (hJ:=by exact⟨by omega,by simp⟩);obtain⟨x1,V⟩:=hk;refine gd ?_ ?_<;>intro x0
 ·obtain⟨f,hf⟩:∃f,F[k]? =some f:=⟨_,lgg (by omega)⟩;have w2:F[(k:Int).toNat]? =some f:=by simpa using hf
  have H:=J.2 f (j5 hf);have E:=zql (m:=m) (D:=D) (C:=r) (run:=run++f) (λG hG=>Q G (wQ _ hG)) (by rw[jI];omega);have xT:run.length+f.length<=4000000000:=by simp only[jY]at hr;omega
  refine gq ?_;refine yQ [28,29,30,31,32,33,34,35,36,37,38,39] [0,0,0,4,0,0,32,0,128,496,0,2032,4095,8191] mo ?_;iterate 3 refine yb ?_
  first
   |refine ChM.step rfl rfl rfl (k7 (zG rfl rfl rfl zm8 ty56 (by omega) (by omega))) rfl ?_
   |refine ChM.step rfl rfl rfl (k7 (zah rfl rfl zm8 ty56 (λ_=>rfl) (by omega) (by omega))) rfl ?_
  iterate 2 refine yb ?_
  refine yb ?_ (hs:=by exact zky rfl sl33);refine yb ?_;refine yb ?_ (hs:=by exact zky rfl sl33);refine ChM.step rfl rfl rfl (k7 (zwS rfl rfl rfl sl33 ty90 I)) rfl ?_;refine yb ?_;refine ChM.step rfl rfl rfl (zj5 (k:=39) (kh:=1000003) rfl rfl rfl sl33 ti90 (by decide) (by decide) (λ_=>rfl) H.1 xT) rfl ?_;refine yx ?_;refine kR (k9 (k:=39) rfl) ?_;refine yM (ih r.length (by rw[←hn];simp) r (run++f) rfl (λG hG=>Q G (wQ _ hG)) (by simp only[jI,jY]at*;omega)) ?_;refine ya ?_;apply yG;refine ya ?_;refine zak (zwT Tryz.underlying33 rfl E) rfl ?_;refine gd ?_ ?_<;>intro T
  ·have x4:=wS.1 T;obtain⟨x,hx⟩:=x4;have Z:srV m D (F::r) run=srV m D r (run++f):=by rw[hx];exact zme (by rw[zn8 hf V,hx])
   refine gq ?_;all_goals(rw[Z];first|done|rfl)
  have x3:(F.take (k+1)).findSome? (λf=>srV m D r (run++f))=none:=by rw[zn8 hf V];simpa using T
  refine gq ?_;refine yo (k+1) (hJ:=by exact⟨by omega,x3⟩) (hI:=yg)
 ·obtain rfl:k=F.length:=by omega
  have Z:=zob V;refine gq ?_;all_goals(rw[Z];first|done|rfl)
set_option maxHeartbeats 1000000 in
def zfT(m:Mn)(l:List Bt)(h:Hb)(hl:l.length<=4000000000):Fn prog 24 [mnA m,btsA l,hbA h] (.tup [sgsA (wrV m l h),iv (wrE m l h)]):=by
 have U:=zei m l h;have T:=zni m l h;refine kC func24 ntmps24 (λg w d=>?_);refine gc (zdL m l h hl) ?_;refine gd ?_ ?_<;>intro N
 ·have J:=zyu N;obtain⟨hE,Z⟩:=J;apply ye;refine yq ?_;refine kE ?_;refine k8 (yd (ts:=[(6,sgsA []),(7,iv (wcnE m l h))]) (hs:=[])) ?_;refine yh ?_ ?_;all_goals(first|exact zE Z|exact zE hE|(rw[Z,V];rfl)|(rw[hE,V];rfl))
 have h0:wcnE m l h=0:=by omega
 have x4:=zlb h0;refine gd ?_ ?_<;>intro x3
 ·have I:=zyv h0 (by omega);obtain⟨hE,Z⟩:=I;apply ye;refine yL ?_;refine kE ?_;refine k8 (yd (ts:=[(6,sgsA []),(7,iv 0)]) (hs:=[])) ?_;refine yh ?_ ?_;all_goals(first|exact zE Z|exact zE hE|(rw[Z,V];rfl)|(rw[hE,V];rfl))
 have H:=zv7 h0 (show¬l.length=0 by omega);obtain⟨hE,Z⟩:=H;have E:=zql (m:=m) (D:=durB l) (run:=[]) T (by rw[U];simp only[u4];omega);refine gq ?_;refine yQ [10,24,25,26,27,28,29,30,31] [0,0,2,0,0,0,62,127,255] mo ?_;iterate 2 refine yb ?_
 refine yI (zg8 l hl) ?_;iterate 3 refine yb ?_
 refine yI (zie m l h (by omega)) ?_;refine ChM.step rfl rfl rfl (zau rfl rfl rfl (.cons (kU _) (.cons (kU _) (.cons (kU _) (.cons (kO _) .nil)))) (ziS m (durB l) _ (chV m l h) [] rfl T (by rw[U];simp only[u4];omega))) rfl ?_;refine yb ?_;refine yx ?_;apply kL;apply yf;apply ye;refine ya ?_;refine zak (zzp Tryz.underlying33 rfl E) rfl ?_;refine gd ?_ ?_<;>intro Q
 ·have V:srV m (durB l) (chV m l h) []=none:=by simpa using Q
  apply ye;refine yL ?_;refine kE ?_;refine k8 (yd (ts:=[(6,sgsA []),(7,iv 18)]) (hs:=[])) ?_;refine yh ?_ ?_;all_goals(first|exact zE Z|exact zE hE|(rw[Z,V];rfl)|(rw[hE,V];rfl))
 have xT:=wS.1 (show(srV m (durB l) (chV m l h) []).isSome=true by simpa using Q);obtain⟨x,hx⟩:=xT;refine gq ?_;refine yh ?_ ?_;all_goals(first|(rw[Z,hx];rfl)|(rw[hE,hx];rfl))
end
section
def hbL(a b:Hb):Bool:=(!a.Color||b.Color)&&(!a.Dots||b.Dots)&&(!a.Alter||b.Alter)
def zsy{a b:Hb}:hbL a b=true↔(a.Color=true->b.Color=true)/\(a.Dots=true->b.Dots=true)/\(a.Alter=true->b.Alter=true):=by
 grind[hbL]
def zqm{a b:Hb}(h:hbL a b=true):(a.Color=true->b.Color=true)/\(a.Dots=true->b.Dots=true)/\(a.Alter=true->b.Alter=true):=zsy.1 h
theorem zqn{s:Sp}{a b:Hb}(h:hbL a b=true)(hs:usQ s a=true):usQ s b=true:=by
 obtain⟨Z,V,U⟩:=zqm h
 grind[usQ]
theorem zmi{x:Bt}{s:Sp}{a b:Hb}(h:hbL a b=true)(hs:slQ x a s=true):slQ x b s=true:=by
 grind[slQ,zqn]
def zqo{α:Type}{p q:Bool}{l:List α}(h:p=true->q=true):(if p=true then l else[]).Sublist (if q=true then l else[]):=by
 grind
def zmj{α:Type}{L:List α}{p q:α->Bool}(h:∀x,p x=true->q x=true)(Z:L.any p=true):L.any q=true:=by
 grind
def zoc{x:Bt}{a b:Hb}(h:hbL a b=true)(L:List Sp)(v:Int)(c:Bool):(rkC x a L v c).Sublist (rkC x b L v c):=by
 unfold rkC;refine List.Sublist.append (zqo (zmj λs hs=>?_)) (zqo λZ=>?_)
 ·grind[zmi]
 ·rw[j7]at*
  refine⟨zmj (λs hs=>?_) Z.1,(zqm h).2.1 Z.2⟩
  grind[zmi]
def zod{x:Bt}{a b:Hb}(h:hbL a b=true)(L:List Sp):∀n,(rkL x a L n).Sublist (rkL x b L n)
 |0=>List.Sublist.refl _
 |n+1=>(zod h L n).append ((zoc h L _ _).append (zoc h L _ _))
def zsz{x:Bt}{a b:Hb}(h:hbL a b=true)(m:Mn):(frV m x a).Sublist (frV m x b):=(zod h _ 8).map _
def zoe{a b:Hb}(h:hbL a b=true)(m:Mn):∀(l:List Bt),cnP m a l<=cnP m b l
 |[]=>jE _
 |x::l=>vZ (zsz h m).length_le (zoe h m l)
def zyw(a:Hb):hbL a (hbM 7)=true:=by
 grind[hbL,hbM]
def FmQ(r:Bool)(x:List Sg):Prop:=∃s:Sg,(s.Kind=1\/s.Kind=2/\s.Color=false)/\decide (s.Kind=2)=r/\(x=[s]\/x=[s,dtS])
def zv8(r:Bool)(f:Fo):FmQ r (foS r f):=by
 grind[foS,FmQ]
def zv9{m:Mn}{b:Bt}{h:Hb}{x:List Sg}(hx:x∈fmV m b h):FmQ b.Rest x:=by
 unfold fmV at hx;split at hx
 ·obtain⟨f,-,rfl⟩:=jX.1 hx;exact zv8 _ _
 ·simp at hx
def zsA(a b:List Sg):rsL (a++b)=rsL a++rsL b:=by simp[rsL]
def zwa{r:Bool}{x:List Sg}(h:FmQ r x):rsL x=[r]:=by
 obtain⟨s,Z,V,U⟩:=h
 grind[rsL]
def cqQ(y:List Sg):Prop:=∀s∈y,s.Color=true->s.Kind=1
def zwb{a b:List Sg}(Z:cqQ a)(V:cqQ b):cqQ (a++b):=λs hs=>by
 rcases wP.1 hs with h|h
 ·exact Z s h
 ·exact V s h
def zyx{r:Bool}{x:List Sg}(h:FmQ r x):cqQ x:=by
 obtain⟨s,Z,-,V⟩:=h
 grind[cqQ]
def zyy{y:List Sg}(h:cqQ y):clN y=coN y:=by
 unfold clN coN;congr 1;refine xJ λs hs=>?_
 cases Z:s.Color
 ·simp
 ·simp[h s hs Z]
def znk(m:Mn)(h:Hb):∀(l:List Bt)(r y:List Sg),y∈wuL (fmL m l h) r->rsL y=rsL r++l.map (·.Rest)/\(cqQ r->cqQ y)
 |[],r,y,Z=>by
  have:y=r:=vO.1 Z;subst this;simp
 |b::l,r,y,Z=>by
  obtain⟨x,hx,Z⟩:=xN.1 (show y∈(fmV m b h).flatMap λx=>wuL (fmL m l h) (r++x)from Z);obtain⟨V,U⟩:=znk m h l (r++x) y Z;have hf:=zv9 hx;refine⟨?_,λhr=>U (zwb hr (zyx hf))⟩;rw[V,zsA,zwa hf,uV];rfl
def zwc{m:Mn}{l:List Bt}{h:Hb}{y:List Sg}(Z:y∈wyL m l h):rsL y=l.map (·.Rest)/\cqQ y/\rdE m y=0/\(rdV m y).Durs=durB l:=by
 unfold wyL at Z;obtain⟨V,U⟩:=wL.1 Z;obtain⟨T,Q⟩:=znk m h l [] y V
 grind[reQ,rsL,cqQ]
theorem zlc{m:Mn}{l:List Bt}(h:wcE m l=0){b:Bt}(Z:b∈l):wcE m [b]=0:=by
 grind[wcE,zlC]
def zuV{m:Mn}{l:List Bt}(Z:wcE m l=0)(h:Hb):fmL m l h=chV m l h:=by
 grind[fmL,chV,List.map_congr_left,fmV,zlc]
def zwd(x y:Wg):wgC x y<0↔x.n<y.n\/x.n=y.n/\x.c<y.c:=by
 grind[wgC,orV,cmpI]
def zmk(a:Nat)(Z:a<8):hbN (a:Int)=hbM (a:Int):=by
 have key:∀a:Fin 8,hbN ((a:Nat):Int)=hbM ((a:Nat):Int):=by decide+kernel
 exact key ⟨a,Z⟩
def zwe(m:Mn)(l:List Bt)(v:Int):wq m l v=decide (¬(wyL m l (hbN v)).length=0):=by simp[wq,wyX]
end
end Go.Rse
