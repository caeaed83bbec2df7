/-
  Plain.
-/
import Derived.Test.YtamceaedmdmmlaaGreatDoorZJWri0
import Derived.Shelf.SlSortCmp.NoneTotal
set_option linter.all false
namespace Go.Rse
open Go Go.Proofs
section
def muB(m:Mn)(_:Int):Bool:=decide ((meU m).D=1)&&(decide (1<=(meU m).N)&&(decide ((meU m).N<=1000)&&decide (ckT (meU m)=0)))
def zs4:zdc muB=true:=by kernel_rfl
def zvY{m:Mn}(hm:ckM m=0):(meU m).D=1/\1<=(meU m).N/\(meU m).N<=1000/\ckT (meU m)=0:=by
 have:=zab zs4 hm (v:=1) (by decide) (by decide);unfold muB at this;simpa using this
def zzZ{n d:Int}(h:0<n):gI n d<=n:=by
 unfold gI;have:=Nat.gcd_le_left d.natAbs (show 0<n.natAbs by omega);omega
def zz0{n d:Int}(Z:0<=d)(h:d∣n):gI n d=d:=by
 unfold gI;have:=Nat.gcd_eq_right (Int.natAbs_dvd_natAbs.2 h);omega
def zxe{m:Mn}{s:Tm}(hm:ckM m=0)(hs:ckT s=0):whB (meU m) s=(decide (s.D=1)&&decide (s.N%(meU m).N=0)):=by
 obtain⟨u1,u2,u3,u4⟩:=zvY hm;obtain⟨s0,s1,s2,s3,s4,s5⟩:=zM hs;have hf:yM [s,meU m]=0:=by simp[yM,hs,u4]
 have H:1<=(meU m).N*s.D:=by have:=kB u2 s4 (by omega) (by omega);simpa using this
 have G:(meU m).N*s.D<=1000*1048576:=kB u3 s3 (by omega) (by omega);have n0:=uS s.N (show(meU m).N*s.D≠0 by omega);have n1:=uD s.N (show 0<(meU m).N*s.D by omega);have T:=zbY (n:=s.N%((meU m).N*s.D)) (d:=s.D) (by omega);have d1:=u5 (gI (s.N%((meU m).N*s.D)) s.D) n0;have d2:=u5 (gI (s.N%((meU m).N*s.D)) s.D) (show 0<=s.D by omega)
 have hk:tmkE (s.N%((meU m).N*s.D)) s.D=0:=by
  unfold tmkE;rw[j7 (by omega),j7 (by omega),j7 (by omega)]
 have hE:whE s (meU m)=0:=by
  unfold whE;rw[j6 hf,j7 (by omega),u1,xW,xW];exact hk
 have J:(whR s (meU m)).N=s.N%((meU m).N*s.D)/gI (s.N%((meU m).N*s.D)) s.D:=by
  unfold whR;rw[j6 hE,u1,xW,xW];unfold tmkT;rw[j6 hk]
 unfold whB;rw[hE,J,jJ rfl,kH,Bool.eq_iff_iff,jZ,jA,jZ,jZ];constructor
 ·intro h
  have h0:s.N%((meU m).N*s.D)=0:=by
   apply jV;intro hn;have U:=zzZ (n:=s.N%((meU m).N*s.D)) (d:=s.D) (by omega);have Z:=Int.ediv_le_ediv T U;rw[Int.ediv_self (by omega)]at Z;omega
  have h1:=Int.dvd_of_emod_eq_zero h0;have V:s.D∣s.N:=Int.dvd_trans (Int.dvd_mul_left _ _) h1;have U:=zz0 (by omega) V;have Z:s.D=1:=by omega
  rw[Z,xW]at h0;exact⟨Z,h0⟩
 ·rintro⟨h1,V⟩
  rw[h1,xW,V,Int.zero_ediv]
def zs5(m:Mn):yw m (meV m)=meU m:=rfl
def pmJ(m:Mn):Nat->Int
 |0=>3
 |j+1=>if m.p (4-(j:Int))=3 then 4-(j:Int)else pmJ m j
def pmB(m:Mn)(_:Int):Bool:=decide (pmJ m 4=meV m)&&(decide (1<=meV m)&&decide (meV m<=4))
def zs6:zdc pmB=true:=by kernel_rfl
def zxf{m:Mn}(hm:ckM m=0):pmJ m 4=meV m/\1<=meV m/\meV m<=4:=by
 have:=zab zs6 hm (v:=1) (by decide) (by decide);unfold pmB at this;simpa using this
def zz1{m:Mn}{j:Nat}(h:m.p (4-(j:Int))=3):4-(j:Int)=pmJ m (j+1):=by
 show _=(if m.p (4-(j:Int))=3 then 4-(j:Int)else pmJ m j);rw[j6 h]
def zz2{m:Mn}{j:Nat}(h:¬m.p (4-(j:Int))=3):pmJ m j=pmJ m (j+1):=by
 show _=(if m.p (4-(j:Int))=3 then 4-(j:Int)else pmJ m j);rw[j7 h]
def brS(u:Tm)(l:List Bt):Nat->Tm×List Bt×List (List Bt)
 |0=>(⟨0,1⟩,[],[])
 |k+1=>if whB u (addV (brS u l k).1 (l.getD k default).Dur)=true then(⟨0,1⟩,[],(brS u l k).2.2++[(brS u l k).2.1++[l.getD k default]])else(addV (brS u l k).1 (l.getD k default).Dur,(brS u l k).2.1++[l.getD k default],(brS u l k).2.2)
structure BrJ(u:Tm)(l:List Bt)(k:Nat):Prop where
 e:bkE u ⟨0,1⟩ l=bkE u (brS u l k).1 (l.drop k)
 v:bkV u ⟨0,1⟩ [] l=(brS u l k).2.2++bkV u (brS u l k).1 (brS u l k).2.1 (l.drop k)
 n:(brS u l k).2.2.length+(brS u l k).2.1.length<=k
def zz3(u:Tm)(l:List Bt):BrJ u l 0:=⟨rfl,rfl,jE _⟩
def zs7{l:List Bt}{k:Nat}{b:Bt}(Z:l[k]? =some b):l.drop k=b::l.drop (k+1)/\l.getD k default=b:=by
 have h1:=j5.1 Z;refine⟨by rw[jL h1.1,h1.2],?_⟩;rw[jD,Z];rfl
def BrJ.err{u:Tm}{l:List Bt}{k:Nat}{b:Bt}(h:BrJ u l k)(Z:l[k]? =some b)(he:¬addE (brS u l k).1 b.Dur=0):bkE u ⟨0,1⟩ l=addE (brS u l k).1 b.Dur:=by
 rw[h.e,(zs7 Z).1];show(if addE (brS u l k).1 b.Dur=0 then _ else _)=_;rw[j7 he]
def zz4{u:Tm}{l:List Bt}{k:Nat}{b:Bt}(Z:l[k]? =some b)(V:whB u (addV (brS u l k).1 b.Dur)=true):brS u l (k+1)=(⟨0,1⟩,[],(brS u l k).2.2++[(brS u l k).2.1++[b]]):=by
 rw[brS,(zs7 Z).2,j6 V]
def zz5{u:Tm}{l:List Bt}{k:Nat}{b:Bt}(Z:l[k]? =some b)(V:¬whB u (addV (brS u l k).1 b.Dur)=true):brS u l (k+1)=(addV (brS u l k).1 b.Dur,(brS u l k).2.1++[b],(brS u l k).2.2):=by
 rw[brS,(zs7 Z).2,j7 V]
def BrJ.s{u:Tm}{l:List Bt}{k:Nat}{b:Bt}(h:BrJ u l k)(V:l[k]? =some b)(he:addE (brS u l k).1 b.Dur=0):BrJ u l (k+1):=by
 have h1:=h.e;have U:=h.v;have T:=h.n;rw[(zs7 V).1]at h1 U;by_cases Z:whB u (addV (brS u l k).1 b.Dur)=true
 ·have e:=zz4 V Z;refine⟨?_,?_,?_⟩
  ·rw[h1,e];show(if addE (brS u l k).1 b.Dur=0 then bkE u (if whB u (addV (brS u l k).1 b.Dur)=true then _ else _) _ else _)=_;rw[j6 he,j6 Z]
  ·rw[U,e];show _++(if whB u (addV (brS u l k).1 b.Dur)=true then _ else _)=_;rw[j6 Z];simp
  ·rw[e];simp;omega
 ·have e:=zz5 V Z;refine⟨?_,?_,?_⟩
  ·rw[h1,e];show(if addE (brS u l k).1 b.Dur=0 then bkE u (if whB u (addV (brS u l k).1 b.Dur)=true then _ else _) _ else _)=_;rw[j6 he,j7 Z]
  ·rw[U,e];show _++(if whB u (addV (brS u l k).1 b.Dur)=true then _ else _)=_;rw[j7 Z]
  ·rw[e];simp;omega
def BrJ.fin{u:Tm}{l:List Bt}(h:BrJ u l l.length):bkE u ⟨0,1⟩ l=0/\bkV u ⟨0,1⟩ [] l=(brS u l l.length).2.2++if(brS u l l.length).2.1=[]then[]else[(brS u l l.length).2.1]:=by
 have h1:=h.e;have Z:=h.v;rw[wT]at h1 Z;exact⟨h1,Z⟩
def zEi{u:Tm}{l:List Bt}{k:Nat}{b:Bt}(Z:l[k]? =some b)(V:whB u (addV (brS u l k).1 b.Dur)=true):tmE ⟨0,1⟩=tmE (brS u l (k+1)).1/\[]=(brS u l (k+1)).2.1/\(brS u l k).2.2++[(brS u l k).2.1++[b]]=(brS u l (k+1)).2.2:=by
 rw[zz4 Z V];exact⟨rfl,rfl,rfl⟩
def zEj{u:Tm}{l:List Bt}{k:Nat}{b:Bt}(Z:l[k]? =some b)(V:¬whB u (addV (brS u l k).1 b.Dur)=true):tmE (addV (brS u l k).1 b.Dur)=tmE (brS u l (k+1)).1/\(brS u l k).2.1++[b]=(brS u l (k+1)).2.1/\(brS u l k).2.2=(brS u l (k+1)).2.2:=by
 rw[zz5 Z V];exact⟨rfl,rfl,rfl⟩
def zEk{m:Mn}{l:List Bt}{k:Nat}{b:Bt}(c:wcE m l=0)(h:BrJ (meU m) l k)(Z:l[k]? =some b)(he:¬addE (brS (meU m) l k).1 b.Dur=0):blE m l=addE (brS (meU m) l k).1 b.Dur/\blV m l=[]:=by
 have e:blE m l=addE (brS (meU m) l k).1 b.Dur:=by unfold blE;rw[j6 c,h.err Z he]
 exact⟨e,by unfold blV;rw[e,j7 he]⟩
def zEl{m:Mn}{l:List Bt}(c:wcE m l=0)(h:BrJ (meU m) l l.length):blE m l=0/\blV m l=(brS (meU m) l l.length).2.2++if(brS (meU m) l l.length).2.1=[]then[]else[(brS (meU m) l l.length).2.1]:=by
 have e:blE m l=0:=by unfold blE;rw[j6 c,h.fin.1]
 exact⟨e,by unfold blV;rw[j6 e,h.fin.2]⟩
end
section
def msS(m:Mn):Sg:=⟨5,0,0,0,false,0,false,false,m,false,0,0,0,0⟩
def ptK(m:Mn)(h:Hb):List (List Bt)->List Sg->List Sg->List Bt->Int×List Sg
 |[],S,R,B=>(0,S)
 |b::r,S,R,B=>
  if wcnE m b h=0 then
   match srV m (durB (B++b)) (chV m b h) R with
   |some x=>ptK m h r (S++x.drop R.length) x (B++b)
   |none=>match srV m (durB b) (chV m b h) []with
    |some x=>ptK m h r ((S++[msS m])++x) x b
    |none=>(18,[])
  else(wcnE m b h,[])
def ptS(m:Mn)(h:Hb)(L:List (List Bt)):Nat->List Sg×List Sg×List Bt
 |0=>([msS m],[],[])
 |k+1=>
  match srV m (durB ((ptS m h L k).2.2++L.getD k [])) (chV m (L.getD k []) h) (ptS m h L k).2.1 with
  |some x=>((ptS m h L k).1++x.drop (ptS m h L k).2.1.length,x,(ptS m h L k).2.2++L.getD k [])
  |none=>(((ptS m h L k).1++[msS m])++(srV m (durB (L.getD k [])) (chV m (L.getD k []) h) []).getD [],(srV m (durB (L.getD k [])) (chV m (L.getD k []) h) []).getD [],L.getD k [])
structure PtJ(m:Mn)(h:Hb)(L:List (List Bt))(k:Nat):Prop where
 e:ptK m h L [msS m] [] []=ptK m h (L.drop k) (ptS m h L k).1 (ptS m h L k).2.1 (ptS m h L k).2.2
 r:(ptS m h L k).2.1.length<=2*(ptS m h L k).2.2.length
 b:(ptS m h L k).2.2.length<=(L.take k).flatten.length
 s:(ptS m h L k).1.length<=1+k+2*(L.take k).flatten.length
def zz6(m:Mn)(h:Hb)(L:List (List Bt)):PtJ m h L 0:=⟨rfl,jE _,jE _,by simp[ptS]⟩
def zhU{L:List (List Bt)}{k:Nat}{b:List Bt}(Z:L[k]? =some b):L.drop k=b::L.drop (k+1)/\L.getD k []=b/\(L.take (k+1)).flatten=(L.take k).flatten++b:=by
 have h1:=j5.1 Z;refine⟨by rw[jL h1.1,h1.2],by rw[jD,Z];rfl,?_⟩;rw[jG,Z];simp
def zhe{m:Mn}{D:List Tm}{b:List Bt}{h:Hb}{R x:List Sg}(e:srV m D (chV m b h) R=some x):R.length+b.length<=x.length/\x.length<=R.length+2*b.length:=by
 have:=zik (n:=2) (λF Z f hf=>zmX F Z f hf) e;have V:(chV m b h).length=b.length:=by unfold chV;rw[jS]
 rw[V]at this;exact this
section
variable{m:Mn}{h:Hb}{L:List (List Bt)}{k:Nat}{b:List Bt}
def zvZ(Z:L[k]? =some b){x:List Sg}(hx:srV m (durB ((ptS m h L k).2.2++b)) (chV m b h) (ptS m h L k).2.1=some x):ptS m h L (k+1)=((ptS m h L k).1++x.drop (ptS m h L k).2.1.length,x,(ptS m h L k).2.2++b):=by
 rw[ptS,(zhU Z).2.1,hx]
def zv0(Z:L[k]? =some b)(h0:srV m (durB ((ptS m h L k).2.2++b)) (chV m b h) (ptS m h L k).2.1=none){x:List Sg}(hx:srV m (durB b) (chV m b h) []=some x):ptS m h L (k+1)=(((ptS m h L k).1++[msS m])++x,x,b):=by
 rw[ptS,(zhU Z).2.1,h0,hx];rfl
def PtJ.err(Z:PtJ m h L k)(V:L[k]? =some b)(c:¬wcnE m b h=0):ptK m h L [msS m] [] []=(wcnE m b h,[]):=by
 rw[Z.e,(zhU V).1,ptK,j7 c]
def PtJ.no(Z:PtJ m h L k)(V:L[k]? =some b)(c:wcnE m b h=0)(h0:srV m (durB ((ptS m h L k).2.2++b)) (chV m b h) (ptS m h L k).2.1=none)(h1:srV m (durB b) (chV m b h) []=none):ptK m h L [msS m] [] []=(18,[]):=by
 rw[Z.e,(zhU V).1,ptK,j6 c,h0,h1]
def PtJ.s1(Z:PtJ m h L k)(V:L[k]? =some b)(c:wcnE m b h=0){x:List Sg}(hx:srV m (durB ((ptS m h L k).2.2++b)) (chV m b h) (ptS m h L k).2.1=some x):PtJ m h L (k+1):=by
 have e:=zvZ V hx;have hr:=zhe hx;have h1:=Z.e;have U:=Z.r;have T:=Z.b;have N:=Z.s;rw[(zhU V).1,ptK,j6 c,hx]at h1;refine⟨by rw[h1,e],?_,?_,?_⟩
 ·rw[e];simp only[jC];omega
 ·rw[e,(zhU V).2.2];simp only[jC];omega
 ·rw[e,(zhU V).2.2];simp only[jC,u7];omega
def PtJ.s2(Z:PtJ m h L k)(V:L[k]? =some b)(c:wcnE m b h=0)(h0:srV m (durB ((ptS m h L k).2.2++b)) (chV m b h) (ptS m h L k).2.1=none){x:List Sg}(hx:srV m (durB b) (chV m b h) []=some x):PtJ m h L (k+1):=by
 have e:=zv0 V h0 hx;have hr:=zhe hx;have h1:=Z.e;have U:=Z.r;have T:=Z.b;have N:=Z.s;rw[(zhU V).1,ptK,j6 c,h0,hx]at h1;refine⟨by rw[h1,e],?_,?_,?_⟩
 ·rw[e];simp only[wQ]at hr⊢;omega
 ·rw[e,(zhU V).2.2];simp only[jC];omega
 ·rw[e,(zhU V).2.2];simp only[jC,wW,wQ]at hr⊢;omega
def PtJ.fin(Z:PtJ m h L L.length):ptK m h L [msS m] [] []=(0,(ptS m h L L.length).1):=by
 rw[Z.e,wT,ptK]
end
def znn{u:Tm}:∀(l:List Bt)(s:Tm)(K:List Bt),(∀b∈bkV u s K l,1<=b.length)/\(bkV u s K l).flatten=K++l
 |[],s,K=>by
  unfold bkV;split
  ·rename_i h;subst h;simp
  ·rename_i h;refine⟨λb V=>?_,by simp⟩;rw[wR]at V;subst V;exact uH.2 h
 |b::r,s,K=>by
  unfold bkV;split
  ·have ih:=znn (u:=u) r ⟨0,1⟩ [];refine⟨λc Z=>?_,by rw[uQ,ih.2];simp⟩;rcases wA.1 Z with rfl|Z
   ·simp
   ·exact ih.1 c Z
  ·have ih:=znn (u:=u) r (addV s b.Dur) (K++[b]);exact⟨ih.1,by rw[ih.2];simp⟩
def ziz{m:Mn}{l:List Bt}(e:blE m l=0):(∀b∈blV m l,1<=b.length)/\(blV m l).flatten=l:=by
 unfold blV;rw[j6 e];have:=znn (u:=meU m) l ⟨0,1⟩ [];exact⟨this.1,this.2⟩
def zk0:∀{L:List (List Bt)},(∀b∈L,1<=b.length)->L.length<=L.flatten.length
 |[],_=>by simp
 |b::r,h=>by
  have h1:=h b (by simp);have V:=zk0 (L:=r) λc Z=>h c (wE _ Z)
  rw[uQ,jC,w8];omega
def zqs{L:List (List Bt)}{l:List Bt}(h:L.flatten=l)(k:Nat):(L.take k).flatten.length<=l.length:=by
 have:(L.take k).flatten++(L.drop k).flatten=l:=by rw[←List.flatten_append,wB,h]
 rw[←this,jC];omega
def paQ(m:Mn)(l:List Bt)(h:Hb):Int×List Sg:=ptK m h (blV m l) [msS m] [] []
def paE(s:ByteArray)(m:Mn)(l:List Bt)(h:Hb):Int:=if nmQ (bsB s)=true then(if blE m l=0 then(if l.length<=60 then(if(paQ m l h).1=0 then(if(paQ m l h).2.length<=400 then 0 else 11)else(paQ m l h).1)else 11)else blE m l)else 7
def paN(s:ByteArray)(m:Mn)(l:List Bt)(h:Hb):ByteArray:=if paE s m l h=0 then s else⟨#[]⟩
def paV(s:ByteArray)(m:Mn)(l:List Bt)(h:Hb):List Sg:=if paE s m l h=0 then(paQ m l h).2 else[]
section
variable{s:ByteArray}{m:Mn}{l:List Bt}{h:Hb}
def zpS(c:¬paE s m l h=0):paN s m l h=⟨#[]⟩/\paV s m l h=[]:=by
 unfold paN paV;rw[j7 c,j7 c];exact⟨rfl,rfl⟩
def zEm(c:nmQ (bsB s)=false):paE s m l h=7:=by unfold paE;rw[c];rfl
def zEn(c:nmQ (bsB s)=true)(c2:¬blE m l=0):paE s m l h=blE m l:=by unfold paE;rw[j6 c,j7 c2]
def zEo(c:nmQ (bsB s)=true)(c2:blE m l=0)(c3:60<l.length):paE s m l h=11:=by unfold paE;rw[j6 c,j6 c2,j7 (by omega)]
def zxg(c:nmQ (bsB s)=true)(c2:blE m l=0)(c3:l.length<=60){e:Int}{S:List Sg}(c4:ptK m h (blV m l) [msS m] [] []=(e,S))(he:¬e=0):paE s m l h=e:=by
 have:(paQ m l h).1=e:=by unfold paQ;rw[c4]
 unfold paE;rw[j6 c,j6 c2,j6 c3,this,j7 he]
def zEp(c:nmQ (bsB s)=true)(c2:blE m l=0)(c3:l.length<=60){S:List Sg}(c4:ptK m h (blV m l) [msS m] [] []=(0,S))(he:400<S.length):paE s m l h=11:=by
 have h1:(paQ m l h).1=0:=by unfold paQ;rw[c4]
 have Z:(paQ m l h).2=S:=by unfold paQ;rw[c4]
 unfold paE;rw[j6 c,j6 c2,j6 c3,j6 h1,Z,j7 (by omega)]
def zz7(c:nmQ (bsB s)=true)(c2:blE m l=0)(c3:l.length<=60){S:List Sg}(c4:ptK m h (blV m l) [msS m] [] []=(0,S))(he:S.length<=400):paE s m l h=0/\paN s m l h=s/\paV s m l h=S:=by
 have h1:(paQ m l h).1=0:=by unfold paQ;rw[c4]
 have Z:(paQ m l h).2=S:=by unfold paQ;rw[c4]
 have e:paE s m l h=0:=by unfold paE;rw[j6 c,j6 c2,j6 c3,j6 h1,Z,j6 he]
 refine⟨e,by unfold paN;rw[j6 e],by unfold paV;rw[j6 e,Z]⟩
end
end
end Go.Rse
namespace Go.Rse
open Go Go.RowKit
section
variable{κ:Type}[DecidableEq κ]
def kyK(L:List κ):List (κ×Bool):=L.foldl (λa t=>kput t true a) []
def ziA(L:List κ)(t:κ):kput t true (kyK L)=kyK (L++[t]):=by
 simp[kyK]
theorem kyKG:∀(L:List κ)(a:List (κ×Bool)),(a.map (·.1)).Nodup->((L.foldl (λa t=>kput t true a) a).map (·.1)).Nodup/\∀x,x∈(L.foldl (λa t=>kput t true a) a).map (·.1)↔x∈a.map (·.1)\/x∈L
 |[],a,h=>⟨h,λx=>by simp⟩
 |t::L,a,h=>by
  have hk:=zqq t true a
  have h1:((kput t true a).map (·.1)).Nodup:=by
   rw[hk];split
   ·exact h
   ·rename_i hn;refine vL.2 ⟨h,by simp,λx hx y Z e=>?_⟩;simp at Z;subst Z;subst e;exact hn hx
  obtain⟨i1,i2⟩:=kyKG L (kput t true a) h1
  grind
def zs8(L:List κ):((kyK L).map (·.1)).Nodup/\∀x,x∈(kyK L).map (·.1)↔x∈L:=by
 grind[kyKG,kyK]
def zs9(L:List κ):(kyK L).length<=L.length:=by
 have key:∀(L:List κ)(a:List (κ×Bool)),(L.foldl (λa t=>kput t true a) a).length<=a.length+L.length:=by
  intro L
  induction L with
  |nil=>intro a;simp
  |cons t r ih=>
   intro a;have h1:=ih (kput t true a);have Z:(kput t true a).length<=a.length+1:=by unfold kput;split<;>simp
   simp only[xB,w8];omega
 grind[kyK]
end
structure RnJ(n:Nat)(s:Array Nat):Prop where
 nd:s.toList.Nodup
 lt:∀x∈s.toList,x<n
def zz8(n:Nat):RnJ n #[]:=⟨by simp,by simp⟩
def RnJ.s{n i:Nat}{s:Array Nat}(h:RnJ n s)(hi:i<n)(V:s.contains i=false):RnJ n (s.push i):=by
 have hn:i∉s.toList:=λhm=>by
  have:s.contains i=true:=by simpa using hm
  rw[V]at this;cases this
 refine⟨?_,λx hx=>?_⟩
 ·rw[Array.toList_push];refine vL.2 ⟨h.nd,by simp,λx hx y Z e=>?_⟩;simp at Z;subst Z;subst e;exact hn hx
 ·rw[Array.toList_push]at hx;rcases jY.1 hx with hx|hx
  ·exact h.lt x hx
  ·simp at hx;omega
def zof:∀(n:Nat)(L:List Nat),L.Nodup->(∀x∈L,x<n)->L.length<=n
 |0,L,_,h=>by
  cases L with
  |nil=>simp
  |cons x r=>exact absurd (h x (by simp)) (by omega)
 |n+1,L,h1,Z=>by
  have U:=zof n (L.erase n) (h1.erase n) λx hx=>by
   have:=Z x (List.mem_of_mem_erase hx)
   have V:x≠n:=λe=>by
    subst e;exact(List.Nodup.not_mem_erase h1) hx
   omega
  grind
def RnJ.le{n:Nat}{s:Array Nat}(h:RnJ n s):s.size<=n:=by
 have:=zof n s.toList h.nd h.lt;simpa using this
section
variable{κ:Type}[Inhabited κ]
def ouK(K:List (κ×Bool))(s:Array Nat):List κ:=s.toList.map λi=>(K.getD i default).1
def zz9(K:List (κ×Bool)):[]=ouK K #[]:=rfl
def zAa{K:List (κ×Bool)}{s:Array Nat}{i:Nat}{p:κ×Bool}(h:K[i]? =some p):ouK K s++[p.1]=ouK K (s.push i):=by
 simp_all[ouK]
def zog(K:List (κ×Bool))(s:Array Nat):(ouK K s).length=s.size:=by unfold ouK;simp
def zta[DecidableEq κ]{L:List κ}{s:Array Nat}(h:RnJ (kyK L).length s)(hs:∀i,i<(kyK L).length->s.contains i=true):(ouK (kyK L) s).Nodup/\∀x,x∈ouK (kyK L) s↔x∈L:=by
 obtain⟨k1,k2⟩:=zs8 L;refine⟨?_,λx=>?_⟩
 ·unfold ouK;rw[List.Nodup,List.pairwise_map];refine List.Pairwise.imp_of_mem (λ{a b}V U T e=>?_) h.nd;have la:=h.lt a V;have lb:=h.lt b U
  grind[List.pairwise_iff_getElem]
 ·rw[←k2 x];constructor
  ·intro hx;unfold ouK at hx;obtain⟨i,hi,rfl⟩:=jW.1 hx;have hl:=h.lt i hi
   grind
  ·intro hx;obtain⟨p,N,rfl⟩:=jW.1 hx;obtain⟨i,hi⟩:=jQ.1 N;have Z:=(j5.1 hi).1;unfold ouK;refine jW.2 ⟨i,by simpa using hs i Z,?_⟩;simp_all
end
end Go.Rse
namespace Go.Rse
open Go Go.Proofs Go.Shelf Go.Sort
def zoh:AV->Bool
 |.int _ _=>true
 |.bool _=>true
 |.str _=>true
 |.nils=>true
 |.nilf=>true
 |.sl _ _=>true
 |_=>false
def RV.one{I:Im}{ρ:Nat->Value}{c:AV}{v:Value}(h:RV I ρ c v)(ho:zoh c=true):v.oneCell'=true:=by
 cases h<;>first|rfl|(simp[zoh]at ho)
def ztb{W W':World}(h:Grow W W'):∃q os,W'=grow (W.drewN q) os:=by
 refine⟨W'.drawn-W.drawn,W'.heap.extract W.heap.size W'.heap.size,?_⟩;obtain⟨h1,T,N,G,E,J⟩:=h;obtain⟨H,tp,dr,os,ou⟩:=W;obtain⟨Z,tp',dr',os',ou'⟩:=W';simp only at h1 T N G E J;subst h1;subst T;subst N;have e1:dr+(dr'-dr)=dr':=by omega
 have e2:H++Z.extract H.size Z.size=Z:=by
  apply Array.ext
  ·simp;omega
  ·intro i hi U;rw[Array.getElem_append];split
   ·rename_i V;have:=J i V;rw[w7 U,w7 V]at this;exact(vJ this).symm
   ·rename_i xT;rw[Array.getElem_extract];congr 1;omega
 simp only[grow,World.drewN,e1,e2]
structure El{α:Type}(I:Im)(enc:α->List AV)(ok:α->Prop)(s:Nat)where
 x:α
 vs:List Value
 hx:ok x
 he:(enc x).length=s
 hl:vs.length=s
 ho:∀v∈vs,v.oneCell'=true
 hr:∀(j:Nat)(c:AV)(v:Value),(enc x)[j]? =some c->vs[j]? =some v->RV I noNames c v
def zpT{w:World}{b n:Nat}{os:Array Obj}{cur:Array Value}{e:TypeId}{fr:Nat×Nat}(F:Array Value)(Z:w.heap[b]? =some (.cells cur e fr)):
 (grow (putRow id (Sort.ahead w n) b 0 F) os).heap[b]? =some (.cells (putCells id 0 F cur) e fr):=by
 have V:b<w.heap.size:=(wP.1 Z).1;rw[heap_grow_old _ _ (by simpa using V)];simp[putRow,mapBlock,Sort.ahead,Array.getElem?_modify,Z,onCells]
def zk1{w:World}{b n:Nat}{os:Array Obj}(F:Array Value):w.grownBy (grow (putRow id (Sort.ahead w n) b 0 F) os) (some b):=by
 refine⟨rfl,rfl,rfl,by simp,λk hk Z=>?_⟩;rw[heap_grow_old _ _ (by simpa using hk)];have:b≠k:=λe=>Z (by rw[e])
 simp[putRow,mapBlock,Sort.ahead,Array.getElem?_modify,this]
def ziB(cur F:Array Value)(h:F.size<=cur.size):(putCells id 0 F cur).toList.take F.size=F.toList:=by
 apply uI;intro j;by_cases Z:j<F.size
 ·rw[uJ Z,uV];simp[putCells,Z,show j<cur.size by omega]
 ·rw[List.getElem?_take_eq_none (by omega),wF (by simp;omega)]
def zqt{α:Type}{enc:α->List AV}{s:Nat}{d:Nat}{ρ ρ':Nat->Value}{I:Im}{O:Owns}{w w':World}{E:TypeId}{l l':List α}{b:Nat}{xs':List Value}(Z:Sat (C0 0 d ⟨ρ,I,O⟩ w) [(2000000,.row enc l E s)] ⟨ρ,I,O⟩ w)(hρ:∀n,n≠2000000->ρ' n=ρ n)(G:y9 (ρ 2000000)=some b)(N:y9 (ρ' 2000000)=some b)
 (hm:w.grownBy w' (some b))(J:w.drawn<=w'.drawn)(hw:w'.ownsRow 0 E s (ρ' 2000000) l'.length xs')(he:∀(i:Nat)x,l'[i]? =some x->(enc x).length=s)
 (hv:∀(i:Nat)x(j:Nat)c v,l'[i]? =some x->(enc x)[j]? =some c->xs'[i*s+j]? =some v->RV I noNames c v):
 Sat (C0 0 d ⟨ρ,I,O⟩ w) [(2000000,.row enc l' E s)] ⟨ρ',I,O⟩ w'/\Ext (C0 0 d ⟨ρ,I,O⟩ w) ⟨ρ',I,O⟩ w':=by
 have V:Rel (C0 0 d ⟨ρ,I,O⟩ w) ⟨[],[(2000000,.row enc l E s)]⟩ ⟨ρ,I,O⟩ {tmps:= #[],defers:=[]} w:=⟨rfl,Dfs.nil _ _ _,λt x h=>by simp[lk]at h,Z,⟨bO _,rfl,rfl,rfl,jE _,jE _,λ_ _ _ _=>⟨rfl,rfl⟩,λb y n _ hy=>⟨n,hy⟩⟩⟩;obtain⟨xs,xT,h1,h2,h3⟩:=Z.blk 2000000 _ rfl;have H:=h3 b G
 have hr:=V.modifyR (g':=⟨ρ',I,O⟩) (k:=2000000) (bo:=some b) (B:=.row enc l' E s) (d:=none) (x:=.any) (v:=.nilIface) rfl hρ (λ_ _=>rfl) (λb' e=>by injection e with e;subst e;exact H) hm J (Z.ob.up (bO _) hm.size) rfl (.any _)
  ⟨xs',hw,he,hv,λb' U=>by
   have:b'=b:=by rw[N]at U;simpa using U.symm
   subst this;exact H⟩
 refine⟨⟨hr.sat.im,hr.sat.ob,λk B T=>hr.sat.blk k B ?_⟩,hr.ext⟩;simp only[yq]at T⊢;cases hk:Nat.beq 2000000 k<;>simp[hk]at T⊢
 ·simp[lk]at T
 ·exact T
def ziC{α:Type}{I:Im}{enc:α->List AV}{ok:α->Prop}{s:Nat}[Inhabited (El I enc ok s)]{d:Array (El I enc ok s)}{i j:Nat}{e:El I enc ok s}(hi:d[i]? =some e)(T:j<s):(flatK El.vs s d)[i*s+j]? =e.vs[j]? :=by
 have Z:=(wP.1 hi).1
 have U:i*s+j<d.size*s:=by
  have:=jX s (show i+1<=d.size from Z);rw[Nat.add_mul,kF]at this;omega
 have e1:(i*s+j)/s=i:=(blk_iff s i _ (by omega)).1 ⟨by omega,by omega⟩;have e2:(i*s+j)%s=j:=by rw[Nat.mod_eq_sub_div_mul,e1];omega
 have h:=get_flatK El.vs s d (i*s+j) U;rw[e1,e2]at h;have N:d[i]! =e:=by rw[getElem!_pos d i Z];exact(wP.1 hi).2
 rw[N]at h;have V:j<e.vs.length:=by rw[e.hl];exact T
 rw[getElem!_pos (flatK El.vs s d) (i*s+j) (by simpa using U),getElem!_pos e.vs j V]at h;rw[w7 (by simpa using U),jB V,h]
abbrev leOf{α:Type}(cf:α->α->Int):α->α->Bool:=λx y=>!ltOf cf y x
def zno{α β:Type}[Inhabited β](f:β->α)(ok:α->Prop)(cf:α->α->Int)(hT:∀x y,ok x->ok y->ltOf cf x y=false->ltOf cf y x=false->x=y)
 (V:∀x y z,ok x->ok y->ok z->leOf cf x y=true->leOf cf y z=true->leOf cf x z=true)(U:∀x y,ok x->ok y->(leOf cf x y||leOf cf y x)=true)(hf:∀e,ok (f e))
 {d d':Array β}(hp:PermIn 0 d.size d d')(hs:SortedIn (ltOf λx y=>cf (f x) (f y)) 0 d.size d'):d'.toList.map f=(d.toList.map f).mergeSort (leOf cf):=by
 obtain⟨T,_,Z⟩:=hp;have e1:d'.extract 0 d.size=d':=by rw[←T];exact Array.extract_size
 rw[e1,Array.extract_size]at Z;have hok:∀a∈d.toList.map f,ok a:=λa ha=>by obtain⟨e,_,rfl⟩:=jW.1 ha;exact hf e
 let l0:List {a//ok a}:=d.toList.map λe=>⟨f e,hf e⟩
 have N:l0.map Subtype.val=d.toList.map f:=by simp[l0]
 let r0:{a//ok a}->{a//ok a}->Bool:=λx y=>leOf cf x.1 y.1
 have hm:(l0.mergeSort r0).map Subtype.val=(d.toList.map f).mergeSort (leOf cf):=by
  rw[←N];exact List.map_mergeSort (λa _ b _=>rfl)
 rw[←hm];let l1:List {a//ok a}:=d'.toList.map λe=>⟨f e,hf e⟩
 have J:l1.map Subtype.val=d'.toList.map f:=by simp[l1]
 rw[←J];congr 1;refine List.Perm.eq_of_pairwise (le:=λx y=>r0 x y=true) ?_ ?_ ?_ ((Z.map _).trans (List.mergeSort_perm _ _).symm)
 ·intro a b _ _ h1 h2;simp only[r0,leOf,wL]at h1 h2;exact Subtype.ext (hT a.1 b.1 a.2 b.2 h2 h1)
 ·rw[uT];intro i j hi hj H;have G:i<d'.size:=by simpa[l1]using hi
  have E:j<d'.size:=by simpa[l1]using hj
  have h:=hs i j (wK _) H (by omega);rw[getElem!_pos d' i G,getElem!_pos d' j E]at h;simp only[l1,List.getElem_map,Array.getElem_toList,r0,leOf,wL];exact h
 ·exact List.pairwise_mergeSort (λa b c=>V a.1 b.1 c.1 a.2 b.2 c.2) (λa b=>U a.1 b.1 a.2 b.2) _
def zmd{I:Im}{ρ:Nat->Value}{k f:Nat}{args:List Value}(h:RVL I ρ [.own k,.fn f []] args):args=[ρ k,.func (.func f) #[] #[]]:=by
 obtain⟨hl,hv⟩:=h
 match args,hl with
 |[u,v],_=>
  rw[zaa (hv 0 _ u rfl rfl)];have h1:=hv 1 _ v rfl rfl;cases h1 with
  |fn f caps vs Z V=>
   have:vs=[]:=jR Z;subst this;rfl
def ztc{P:Program}{τ:Ren}(L:SlLaysF0.n6 P τ)(x0:zan P (τ.f 6)=true){α:Type}(enc:α->List AV)(s:Nat)(v0:0<s)(E:TypeId)(l:List α)(x3:l.length<=4000000000)(ok:α->Prop)(cf:α->α->Int)(g:FuncId)
 (aE:∀w,(isAgg (τ.t 24)).run P w=.ok true w)(zE:∀w,(Go.sizeOf (τ.t 24)).run P w=.ok s w)(he:∀x,(enc x).length=s)(h1:∀x c,c∈enc x->zoh c=true)
 (u4:∀x y,ok x->ok y->Fn P g [.agg (enc x),.agg (enc y)] (.int .i64 (cf x y)))(hok:∀x∈l,ok x)(hO:∀x,ok x->cf x x=0)(j2:∀x y z,ok x->ok y->ok z->cf x y<0->cf y z<0->cf x z<0)(u3:∀x y z,ok x->ok y->ok z->0<=cf x y->0<=cf y z->0<=cf x z)
 (hT:∀x y,ok x->ok y->0<=cf x y->0<=cf y x->x=y)(j1:∀x y,ok x->ok y->0<=cf x y\/0<=cf y x):
 FnO P (τ.f 6) [.own 2000000,.fn g []] [(2000000,.row enc l E s)] [2000000] (.tup []) [(2000000,.row enc (l.mergeSort (leOf cf)) E s)]:=by
 refine⟨x0,λd ρ I O w args Z w9=>?_⟩;rw[zmd w9];obtain⟨xs,hw,q1,q2,q3⟩:=Z.blk 2000000 _ rfl
 have U:l=[]->∀p c,ρ 2000000=.slice p 0 c->Calls P (τ.f 6) [ρ 2000000,.func (.func g) #[] #[]].toArray w λe w'=>∃v ρ' I' O',e=.returned v/\Sat (C0 0 d ⟨ρ,I,O⟩ w) [(2000000,.row enc (l.mergeSort (leOf cf)) E s)] ⟨ρ',I',O'⟩ w'/\RV I' ρ' (.tup []) v/\Ext (C0 0 d ⟨ρ,I,O⟩ w) ⟨ρ',I',O'⟩ w'/\∀n∈[2000000],ρ' n=ρ n:=by
  intro hl p c hv;subst hl;have e0:([]:List α).mergeSort (leOf cf)=[]:=by simp
  rw[hv,e0];refine Calls.mono (AnyF.slices_SortFunc_none L p c _ w) ?_
  rintro e w'⟨rfl,rfl⟩
  exact⟨_,ρ,I,O,rfl,Z,.tup [] [] rfl (λj c v h=>by simp at h),⟨bO _,rfl,rfl,rfl,jE _,jE _,λ_ _ _ _=>⟨rfl,rfl⟩,λb y n _ hy=>⟨n,hy⟩⟩,λ_ _=>rfl⟩
 rcases hw.2 with⟨hv,h0⟩|⟨b,cap,cur,hv,j0,hh,w2,hZ,T,hY⟩
 ·exact U (jR h0) _ _ hv
 ·have hv:ρ 2000000=.slice (some ⟨b,0,none⟩) l.length cap:=hv;by_cases hl:l=[]
  ·exact U hl _ _ (by rw[hv,hl];rfl)
  --the elements
  have hxl:xs.length=l.length*s:=hw.1
  have hX:∀i,i<l.length->i*s+s<=l.length*s:=λi hi=>by
   have:=jX s (show i+1<=l.length from hi);rw[Nat.add_mul,kF]at this;exact this
  have v9:∀(i:Nat)(hi:i<l.length),∃e:El I enc ok s,e.x=l[i]/\e.vs=(xs.drop (i*s)).take s:=by
   intro i hi;have v8:l[i]? =some l[i]:=jB hi
   have x3:((xs.drop (i*s)).take s).length=s:=by
    have:=hX i hi;rw[jO,u7];omega
   have u2:∀j,j<s->((xs.drop (i*s)).take s)[j]? =xs[i*s+j]? :=λj V=>by
    rw[uJ V,wV]
   have G:∀(j:Nat)(c:AV)(v:Value),(enc l[i])[j]? =some c->((xs.drop (i*s)).take s)[j]? =some v->RV I noNames c v:=λj c v hc N=>by
    have V:j<s:=by rw[←he l[i]];exact(j5.1 hc).1
    rw[u2 j V]at N;exact q2 i _ j c v v8 hc N
   refine⟨⟨l[i],(xs.drop (i*s)).take s,hok _ (uZ hi),he _,x3,λv hv=>?_,G⟩,rfl,rfl⟩;obtain⟨j,V,e⟩:=List.mem_iff_getElem.1 hv;have u1:j<(enc l[i]).length:=by rw[he];omega
   exact RV.one (G j _ v (jB u1) (by rw[jB V,e])) (h1 _ _ (uZ u1))
  let dl:List (El I enc ok s):=List.ofFn λi:Fin l.length=>(v9 i.1 i.2).choose
  have k9:∀(i:Nat)(hi:i<l.length),∃e,dl[i]? =some e/\e.x=l[i]/\e.vs=(xs.drop (i*s)).take s:=λi hi=>by
   refine⟨_,by simp[dl,hi],(v9 i hi).choose_spec⟩
  have k8:dl.length=l.length:=by simp[dl]
  have hW:dl.map El.x=l:=by
   apply List.ext_getElem (by simp[k8]);intro i hi v8;obtain⟨e,H,h3,_⟩:=k9 i v8;rw[List.getElem_map];have:dl[i]'(by simpa using hi)=e:=(j5.1 H).2;rw[this,h3]
  have x2:0<l.length:=Nat.pos_of_ne_zero (λh=>hl (jR h))
  haveI:Inhabited (El I enc ok s):=⟨(v9 0 x2).choose⟩
  have hU:∀(i:Nat)(hi:i<l.length),∃e,dl.toArray[i]? =some e/\e.x=l[i]/\e.vs=(xs.drop (i*s)).take s:=λi hi=>by
   obtain⟨e,H,h3⟩:=k9 i hi;exact⟨e,by simpa using H,h3⟩
  have xT:dl.toArray.size=l.length:=by simpa using k8
  have v5:ImO I O w:=⟨Z.im,Z.ob⟩;have k7:b<w.heap.size:=zg hh;have hQ:O b=some (d,2000000):=(q3 b (by show y9 (ρ 2000000)=some b;rw[hv];rfl)).1
  have hH:HoldsK El.vs s w b 0 dl.toArray:=by
   intro t ht;have v4:t<l.length*s:=by simpa[xT]using ht
   have hq:t/s<l.length:=(Nat.div_lt_iff_lt_mul v0).2 v4;obtain⟨e,H,h3,h4⟩:=hU (t/s) hq;have hm:t%s<s:=xE _ v0;have et:t/s*s+t%s=t:=by rw[u9];exact vH t s
   have hg:=ziC H hm;rw[et]at hg;have hx:e.vs[t%s]? =xs[t]? :=by rw[h4,uJ hm,wV,et]
   have hP:xs[t]? =cur[t]? :=by
    rw[←hY,uJ (by simpa using v4),uV]
   have k6:t<cur.size:=by
    rw[T];exact w6 v4 (jX s w2)
   refine⟨?_,by simp[World.frozen?,hh]⟩
   have hM:(flatK El.vs s dl.toArray)[t]! =cur[t]:=by
    rw[hx,hP,w7 k6]at hg;have h5:=(wP.1 hg);rw[getElem!_pos _ t h5.1];exact h5.2
   rw[hM];simp[World.cell?,hh,k6]
  have k5:CmpLays P g #[] El.vs s (λx y:El I enc ok s=>cf x.x y.x) b 0 dl.toArray.size w:=by
   intro m os dk hdk x y
   have hK:∀a:Addr,a.block<w.heap.size->a.block≠b->(sortWorldK El.vs s w b 0 m dk os).cell? a=w.cell? a:=λa ha hG=>by
    unfold sortWorldK;rw[cell?_grow _ _ _ (by simpa[putRowK,putRow,mapBlock,Sort.ahead]using ha),cell?_putRowK_other _ _ _ _ _ _ _ hG];rfl
   have hC:ImOB ⟨ρ,I,O⟩ (sortWorldK El.vs s w b 0 m dk os):=by
    refine⟨λb' o u hI=>?_,λb' k hk=>?_,v5.2.2⟩
    ·obtain⟨p1,p2⟩:=v5.1 b' o u hI;refine⟨?_,p2⟩
     rw[hK ⟨b',o,none⟩ (zcy p1) (λe=>by
      have e:b'=b:=e;rw[e,hQ]at p2;simp at p2)]
     exact p1
    ·have:=v5.2.1 b' k hk;simp only[sortWorldK,putRowK,putRow,mapBlock,Sort.ahead,size_grow,Array.size_modify];omega
   have hc:=(u4 x.x y.x x.hx y.hx).2.2 ⟨ρ,I,O⟩ (sortWorldK El.vs s w b 0 m dk os) [.agg x.vs.toArray,.agg y.vs.toArray] hC ⟨rfl,λj c v V x4=>by
    match j with
    |0=>simp at V x4;subst V;subst x4;exact .agg _ _ (by rw[x.hl,x.he]) x.hr
    |1=>simp at V x4;subst V;subst x4;exact .agg _ _ (by rw[y.hl,y.he]) y.hr
    |j+2=>simp at V⟩
   rw[Array.append_empty];refine Calls.mono hc ?_
   rintro e w'⟨v,g',rfl,G,k4,_⟩
   have h9:v=.int .i64 (cf x.x y.x):=by cases G;rfl
   subst h9;exact⟨rfl,ztb k4.grow⟩
  have J:∀x y,ltOf (λx y:El I enc ok s=>cf x.x y.x) x y=decide (cf x.x y.x<0):=λ_ _=>rfl
  have k3:SWO (ltOf λx y:El I enc ok s=>cf x.x y.x):=by
   refine⟨λx=>?_,λx y z=>?_,λx y z=>?_⟩
   ·rw[J,hO _ x.hx];rfl
   ·simp only[J,w4];exact j2 _ _ _ x.hx y.hx z.hx
   ·simp only[J,w5,Int.not_lt];exact u3 _ _ _ x.hx y.hx z.hx
  have eg:∀args w,(callFunc g args).run P w=.ok (.enter g args) w:=by
   have hx:ok l[0]:=hok _ (uZ x2);exactλargs w=>zV (u4 _ _ hx hx).1 args w
  have hS:=AnyQ.slices_SortFunc L s aE zE El.vs (λe=>e.hl) (λe=>e.ho) (λx y:El I enc ok s=>cf x.x y.x) k3 g #[] b 0 cap dl.toArray w eg k5 hH k7 (by rw[xT];omega);rw[hv];refine Calls.mono (by rw[←xT];exact hS) ?_
  rintro e w'⟨rfl,d',n,os,hp,h8,rfl⟩
  have x1:=zno El.x ok cf (λx y hx hy H h3=>hT x y hx hy (by simpa[ltOf]using H) (by simpa[ltOf]using h3))
   (λx y z hx hy hz H h3=>by
    simp only[leOf,ltOf,wL,w5,Int.not_lt]at H h3⊢;exact u3 _ _ _ hz hy hx h3 H)
   (λx y hx hy=>by
    simp only[leOf,ltOf,wJ,wL,w5,Int.not_lt];exact(j1 x y hx hy).symm) (λe=>e.hx) hp h8
  rw[List.toList_toArray,hW]at x1;have j4:d'.size=l.length:=hp.1.trans xT;have v3:(flatK El.vs s d').size=l.length*s:=by simp[j4]
  have v2:(flatK El.vs s d').size<=cur.size:=by rw[v3,T];exact jX s w2
  have j3:(sortWorldK El.vs s w b 0 n d' os).ownsRow 0 E s (ρ 2000000) (l.mergeSort (leOf cf)).length (flatK El.vs s d').toList:=by
   rw[List.length_mergeSort];refine⟨by simpa using v3,.inr ⟨b,cap,putCells id 0 (flatK El.vs s d') cur,hv,j0,zpT _ hh,w2,hZ,by simp[putCells,T],?_⟩⟩;rw[←v3];exact ziB cur _ v2
  obtain⟨s1,s2⟩:=zqt (ρ':=ρ) (l':=l.mergeSort (leOf cf)) Z (λ_ _=>rfl) (by rw[hv];rfl) (by rw[hv];rfl) (zk1 (n:=n) (os:=os) (flatK El.vs s d')) (by show w.drawn<=w.drawn+n;omega) j3 (λ_ x _=>he x) (λi x j c v hi hc N=>by
   rw[←x1,jN]at hi;cases v1:d'.toList[i]? with
   |none=>rw[v1]at hi;simp at hi
   |some e=>
    rw[v1]at hi;have hxe:e.x=x:=by simpa using hi
    have V:j<s:=by rw[←he x];exact(j5.1 hc).1
    have hg:=ziC (d:=d') (i:=i) (j:=j) (e:=e) (by rw[←uV];exact v1) V;rw[uV,hg]at N;exact e.hr j c v (by rw[hxe];exact hc) N)
  exact⟨_,ρ,I,O,rfl,s1,.tup [] [] rfl (λj c v h=>by simp at h),s2,λ_ _=>rfl⟩
end Go.Rse
