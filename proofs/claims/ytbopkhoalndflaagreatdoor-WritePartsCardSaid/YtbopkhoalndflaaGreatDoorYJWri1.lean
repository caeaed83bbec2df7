/-
  Plain.
-/
import Derived.Test.YtbopkhoalndflaaGreatDoorYJKit1
set_option linter.all false
namespace Go.Rse
open Go Go.Proofs Go.Proofs.Tryz
section
def cnP(m:Mn)(h:Hb):List Bt->Nat
 |[]=>1
 |b::r=>(frV m b h).length*cnP m h r
theorem zmb(m:Mn)(h:Hb)(b:Bt):∀l,cnP m h (l++[b])=cnP m h l*(frV m b h).length
 |[]=>by simp[cnP]
 |x::r=>by
  simp[cnP,zmb,Nat.mul_assoc]
def zy4{m:Mn}{h:Hb}{l:List Bt}{i:Nat}{b:Bt}(hi:l[i]? =some b):cnP m h (l.take (i+1))=cnP m h (l.take i)*(frV m b h).length:=by
 grind[List.take_add_one,zmb]
def zqT(m:Mn)(h:Hb):∀l,cnP m h l<=32^l.length
 |[]=>jD _
 |b::r=>by
  have Z:=zgM m b h;have V:=zqT m h r;show(frV m b h).length*cnP m h r<=32^(r.length+1);rw[Nat.pow_succ,wV];exact xY V Z
def zwz{m:Mn}{h:Hb}{l:List Bt}(hl:l.length<=12)(i:Nat):cnP m h (l.take i)<=1152921504606846976:=by
 refine jQ (zqT m h _) ?_;rw[show 1152921504606846976=32^12 by decide];exact vC (by decide) (by grind)
def wcnE(m:Mn)(l:List Bt)(h:Hb):Int:=if wcE m l=0 then(if 12<l.length then 11 else if 4096<cnP m h l then 15 else 0)else wcE m l
def wcnV(m:Mn)(l:List Bt)(h:Hb):Int:=if wcnE m l h=0 then(cnP m h l:Int)else 0
def cqO(m:Mn)(h:Hb)(l:List Bt):Bool:=l.any λb=>decide ((frV m b h).length=0)
def cqS(m:Mn)(h:Hb)(n:Nat)(b:Bt):Nat:=if 0<(frV m b h).length/\n<=4096 then n*(frV m b h).length else n
def cqN(m:Mn)(h:Hb)(l:List Bt):Nat:=l.foldl (cqS m h) 1
def zy5{m:Mn}{h:Hb}{l:List Bt}{i:Nat}{b:Bt}(hi:l[i]? =some b):cqO m h (l.take (i+1))=(cqO m h (l.take i)||decide ((frV m b h).length=0)):=by
 unfold cqO;rw[jF,hi];simp
def zy6{m:Mn}{h:Hb}{l:List Bt}{i:Nat}{b:Bt}(hi:l[i]? =some b):cqN m h (l.take (i+1))=cqS m h (cqN m h (l.take i)) b:=by
 unfold cqN;rw[jF,hi];simp
def zwA{m:Mn}{h:Hb}{b:Bt}{n:Nat}(U:n<=131072):cqS m h n b<=131072:=by
 have V:=zgM m b h;unfold cqS;generalize(frV m b h).length=k at V⊢;by_cases Z:0<k/\n<=4096
 ·rw[j3 Z];have T:n*k<=4096*k:=jT k Z.2;omega
 grind
attribute [local irreducible] cqS frV
def zwB(m:Mn)(h:Hb)(l:List Bt):∀(n:Nat),n<=131072->l.foldl (cqS m h) n<=131072:=by
 induction l<;>simp_all[zwA]
def zu1(m:Mn)(h:Hb)(l:List Bt):∀(n:Nat),1<=n->cqO m h l=false->(4096<l.foldl (cqS m h) n↔4096<n*cnP m h l)/\(n*cnP m h l<=4096->l.foldl (cqS m h) n=n*cnP m h l):=by
 induction l with
 |nil=>simp[cnP]
 |cons b r ih=>
  intro n V h0;unfold cqO at h0;simp only[k7,Bool.or_eq_false_iff,jR]at h0;obtain⟨I,Z⟩:=h0
  have T:0<cnP m h r:=by
   clear V ih
   induction r with
   |nil=>simp[cnP]
   |cons x r ih2=>
    simp only[k7,Bool.or_eq_false_iff,jR]at Z;exact Nat.mul_pos (by omega) (ih2 Z.2)
  rw[x5,show cnP m h (b::r)=(frV m b h).length*cnP m h r by rw[cnP]];rw[←Nat.mul_assoc];have N:0<(frV m b h).length:=by omega
  by_cases U:n<=4096
  ·have e:cqS m h n b=n*(frV m b h).length:=by simp_all[cqS]
   rw[e];exact ih _ (Nat.mul_pos V N) Z
  ·have e:cqS m h n b=n:=by unfold cqS;rw[j4 (λJ=>U J.2)]
   rw[e];have i1:=ih n V Z;have g1:4096<n*cnP m h r:=jS (by omega) (xA n T);have g2:4096<n*(frV m b h).length*cnP m h r:=jS (by omega) (jQ (xA n N) (xA _ T));omega
def zoj{m:Mn}{h:Hb}:∀{l:List Bt},cqO m h l=true->cnP m h l=0
 |[],Z=>by simp[cqO]at Z
 |b::r,Z=>by
  unfold cqO at Z;simp only[k7,wB,w5]at Z;show(frV m b h).length*cnP m h r=0;rcases Z with Z|Z
  ·grind
  ·rw[zoj (l:=r) Z,Nat.mul_zero]
def reQ(m:Mn)(l:List Sg)(D:List Tm):Bool:=decide (rdE m l=0)&&decide ((rdV m l).Durs=D)
def srV(m:Mn)(D:List Tm):List (List (List Sg))->List Sg->Option (List Sg)
 |[],run=>if reQ m run D then some run else none
 |F::r,run=>F.findSome? λf=>srV m D r (run++f)
def zok{m:Mn}{D:List Tm}{r:List (List (List Sg))}{run:List Sg}{F:List (List Sg)}{i:Nat}{f:List Sg}(hi:F[i]? =some f)(h0:(F.take i).findSome? (λf=>srV m D r (run++f))=none):(F.take (i+1)).findSome? (λf=>srV m D r (run++f))=srV m D r (run++f):=by
 grind[List.take_add_one]
def zmc{m:Mn}{D:List Tm}{r:List (List (List Sg))}{run:List Sg}{F:List (List Sg)}{i:Nat}{x:List Sg}(h:(F.take i).findSome? (λf=>srV m D r (run++f))=some x):srV m D (F::r) run=some x:=by
 grind[srV,List.take_append_drop]
def zhZ{m:Mn}{D:List Tm}:∀{C:List (List (List Sg))}{run x:List Sg}{n:Nat},(∀F∈C,∀f∈F,1<=f.length/\f.length<=n)->srV m D C run=some x->run.length+C.length<=x.length/\x.length<=run.length+n*C.length
 |[],run,x,n,_,h=>by
  simp_all[srV]
 |F::r,run,x,n,Z,h=>by
  unfold srV at h;obtain⟨f,hf,V⟩:=List.exists_of_findSome?_eq_some h;obtain⟨T,N⟩:=zhZ (n:=n) (λG U=>Z G (wZ _ U)) V
  grind[Nat.mul_succ]
def chV(m:Mn)(l:List Bt)(h:Hb):List (List (List Sg)):=l.map λb=>frV m b h
theorem zs8(r:Bool)(f:Fo):1<=(foS r f).length/\(foS r f).length<=2:=by
 grind[foS]
theorem zqU{m:Mn}{b:Bt}{h:Hb}{f:List Sg}(hf:f∈frV m b h):1<=f.length/\f.length<=2:=by
 grind[frV,zs8]
def zmd{m:Mn}{l:List Bt}{h:Hb}:∀F∈chV m l h,∀f∈F,1<=f.length/\f.length<=2:=λF Z f hf=>by
 grind[chV,zqU]
def wrO(m:Mn)(l:List Bt)(h:Hb):Option (List Sg):=srV m (durB l) (chV m l h) []
def wrE(m:Mn)(l:List Bt)(h:Hb):Int:=if wcnE m l h=0 then(if l=[]then 0 else if(wrO m l h).isSome then 0 else 18)else wcnE m l h
def wrV(m:Mn)(l:List Bt)(h:Hb):List Sg:=if wcnE m l h=0 then(if l=[]then[]else(wrO m l h).getD [])else[]
def zk9{m:Mn}{D:List Tm}{h:Hb}:∀{l:List Bt}{run:List Sg},cnP m h l=0->srV m D (chV m l h) run=none
 |[],run,Z=>by simp[cnP]at Z
 |b::r,run,Z=>by
  show(frV m b h).findSome? (λf=>srV m D (chV m r h) (run++f))=none;rcases Nat.mul_eq_zero.1 (show(frV m b h).length*cnP m h r=0 from Z)with h0|h0
  ·simp_all
  ·rw[List.findSome?_eq_none_iff];intro f _;exact zk9 h0
end
section
def fmV(m:Mn)(b:Bt)(h:Hb):List (List Sg):=if wcE m [b]=0 then frV m b h else[]
theorem zqV{m:Mn}{l:List Bt}{h:Hb}(c:¬wcE m l=0):wcnE m l h=wcE m l/\wcnV m l h=0:=by
 have e:wcnE m l h=wcE m l:=by unfold wcnE;rw[j4 c]
 exact⟨e,by unfold wcnV;rw[e,j4 c]⟩
def zu2{m:Mn}{l:List Bt}{h:Hb}(c:wcE m l=0)(c2:12<l.length):wcnE m l h=11/\wcnV m l h=0:=by
 have e:wcnE m l h=11:=by unfold wcnE;rw[j3 c,j3 c2]
 exact⟨e,by unfold wcnV;rw[e];rfl⟩
def zqW{m:Mn}{l:List Bt}{h:Hb}(c:wcE m l=0)(c2:¬12<l.length)(c3:4096<cnP m h l):wcnE m l h=15/\wcnV m l h=0:=by
 have e:wcnE m l h=15:=by unfold wcnE;rw[j3 c,j4 c2,j3 c3]
 exact⟨e,by unfold wcnV;rw[e];rfl⟩
def zol{m:Mn}{l:List Bt}{h:Hb}(c:wcE m l=0)(c2:¬12<l.length)(c3:¬4096<cnP m h l):wcnE m l h=0/\wcnV m l h=(cnP m h l:Int):=by
 have e:wcnE m l h=0:=by unfold wcnE;rw[j3 c,j4 c2,j4 c3]
 exact⟨e,by unfold wcnV;rw[e];rfl⟩
def zwC{m:Mn}{h:Hb}{l:List Bt}{k:Nat}{b:Bt}(hi:l[k]? =some b):((cnP m h (l.take k):Nat):Int)*((frV m b h).length:Int)=((cnP m h (l.take (k+1)):Nat):Int):=by
 rw[zy4 hi];simp
def zu3{m:Mn}{h:Hb}{l:List Bt}{k:Nat}{b:Bt}(hi:l[k]? =some b):chV m (l.take k) h++[frV m b h]=chV m (l.take (k+1)) h:=by
 unfold chV;rw[jF,hi];simp
theorem zd0(m:Mn)(l:List Bt)(h:Hb):(chV m l h).length=l.length:=by unfold chV;simp
def rsL(l:List Sg):List Bool:=(l.filter λs=>!decide (s.Kind=3)).map λs=>decide (s.Kind=2)
def zla{l:List Sg}{k:Nat}{s:Sg}(h:l[k]? =some s)(Z:s.Kind=3):rsL (l.take k)=rsL (l.take (k+1)):=by
 unfold rsL;rw[jF,h];simp[Z]
def zlb{l:List Sg}{k:Nat}{s:Sg}(h:l[k]? =some s)(Z:¬s.Kind=3):rsL (l.take k)++[decide (s.Kind=2)]=rsL (l.take (k+1)):=by
 unfold rsL;rw[jF,h];simp[Z]
def zlc(l:List Sg):(rsL l).length<=l.length:=by
 unfold rsL;rw[jX];exact wS _ _
def wisE(m:Mn)(l:List Bt)(r:List Sg):Int:=if wcE m l=0 then ckD m r else wcE m l
def wisB(m:Mn)(l:List Bt)(r:List Sg):Bool:=if wisE m l r=0 then decide (l.map (·.Rest)=rsL r)&&reQ m r (durB l)else false
def zBG{m:Mn}{l:List Bt}{r:List Sg}(c:¬wcE m l=0):wisE m l r=wcE m l/\wisB m l r=false:=by
 have e:wisE m l r=wcE m l:=by unfold wisE;rw[j4 c]
 exact⟨e,by unfold wisB;rw[e,j4 c]⟩
def zBH{m:Mn}{l:List Bt}{r:List Sg}(c:wcE m l=0)(c2:¬ckD m r=0):wisE m l r=ckD m r/\wisB m l r=false:=by
 have e:wisE m l r=ckD m r:=by unfold wisE;rw[j3 c]
 exact⟨e,by unfold wisB;rw[e,j4 c2]⟩
def zBI{m:Mn}{l:List Bt}{r:List Sg}(c:wcE m l=0)(c2:ckD m r=0):wisE m l r=0/\wisB m l r=(decide (l.map (·.Rest)=rsL r)&&reQ m r (durB l)):=by
 have e:wisE m l r=0:=by unfold wisE;rw[j3 c,c2]
 exact⟨e,by unfold wisB;rw[j3 e]⟩
def zy7{l:List Bt}{R:List Bool}{k:Nat}{b:Bt}{r:Bool}(Z:l[k]? =some b)(hr:R[k]? =some r)(h:(l.take k).map (·.Rest)=R.take k)(e:b.Rest=r):(l.take (k+1)).map (·.Rest)=R.take (k+1):=by
 rw[jF,Z,jF,hr];simp[h,e]
def zwD{l:List Bt}{R:List Bool}{k:Nat}{b:Bt}{r:Bool}(V:l[k]? =some b)(hr:R[k]? =some r)(e:¬b.Rest=r):¬l.map (·.Rest)=R:=λh=>by
 have Z:(l.map (·.Rest))[k]? =some b.Rest:=by rw[jO,V];rfl
 rw[h,hr]at Z;injection Z with Z;exact e Z.symm
attribute [local irreducible] Pur yA yC Ex X Fn Imp LeV LeB FnO It yH FnW FnOW FnP FnD
attribute [local irreducible] wcE btF ckT ckM ckD frV wcnE wcnV cnP chV durB rdE rdV rsL wisE wisB
def zfD(m:Mn)(b:Bt)(h:Hb):Fn prog 67 [mnA m,btA b,hbA h] (.tup [zca (fmV m b h),iv (wcE m [b])]):=by
 refine kF func67 ntmps67 (λg w d=>?_);refine gq ?_;refine kT (yu (enc:=btE) (l:=[b]) sl24 zfK zjn (by decide) rfl rfl rfl rfl (by decide) (by decide) (λ_=>rfl) rfl) rfl rfl ?_;refine gc (zb4 m [b] (by simp)) ?_;refine gd ?_ ?_<;>intro Z
 ·have V:fmV m b h=[]:=by unfold fmV;rw[j4 Z]
  apply ye;refine yE ?_;refine kE ?_;refine kA (yd (ts:=[(6,zca []),(7,iv (wcE m [b]))]) (hs:=[])) ?_;refine ym ?_ ?_;all_goals(first|exact zE V|rfl)
 have h0:wcE m [b]=0:=by omega
 have V:fmV m b h=frV m b h:=by unfold fmV;rw[j3 h0]
 refine gc (zdo m b h) ?_;refine ym ?_ ?_;all_goals(first|exact j5 (λz=>zca z) V.symm|exact j5 (AV.int .i64) h0.symm)
set_option maxHeartbeats 1000000 in
def zfE(m:Mn)(l:List Bt)(h:Hb)(hl:l.length<=4000000000):Fn prog 18 [mnA m,btsA l,hbA h] (.tup [iv (wcnV m l h),iv (wcnE m l h)]):=by
 have E:(1:Int)=((cnP m h (l.take 0):Nat):Int):=by unfold cnP;rfl
 refine kF func18 ntmps18 (λg w d=>?_);refine gc (zb4 m l hl) ?_;refine gd ?_ ?_<;>intro T
 ·have N:=zqV (h:=h) T;obtain⟨hE,Z⟩:=N;refine gq ?_;refine ym ?_ ?_;all_goals(first|exact zE Z|exact zE hE|(rw[Z,V];done))
 have h0:wcE m l=0:=by omega
 refine gd ?_ ?_<;>intro xT
 ·have J:=zu2 (h:=h) h0 (by omega);obtain⟨hE,Z⟩:=J;refine gq ?_;refine ym ?_ ?_;all_goals(first|exact zE Z|exact zE hE|(rw[Z,V];done))
 have U:¬12<l.length:=by omega
 apply yk;apply ye;refine yh ?_;apply yf;apply ye;refine yE ?_;apply kB;refine zu (λk=>[(3,.ptr 3 0 0 0),(5,.ptr 5 0 0 0),(9,iv ((cnP m h (l.take k):Nat):Int)),(21,btsA l),(22,iv (l.length:Int)),(23,iv (k:Int))]) (λk=>[(3,.box (mnE m) 23),(5,.box (hbE h) 32)]) l.length (λk hk=>?_);refine gd ?_ ?_<;>intro x4
 ·obtain⟨b,G⟩:∃b,l[k]? =some b:=⟨_,lgg (by omega)⟩;have x3:l[(k:Int).toNat]? =some b:=by simpa using G
  have hs:=zwC (m:=m) (h:=h) G;have hq:=zwz (m:=m) (h:=h) (l:=l) (by omega) (k+1);have hf:=zgM m b h;refine gc (zdo m b h) ?_;refine yz (k+1) (hI:=yi)
 ·obtain rfl:k=l.length:=by omega
  have V:cnP m h (l.take l.length)=cnP m h l:=by rw[jH]
  refine gd ?_ ?_<;>intro x2
  ·have I:=zqW (h:=h) h0 U (by omega);obtain⟨hE,Z⟩:=I;refine gq ?_;refine ym ?_ ?_;all_goals(first|exact zE Z|exact zE hE|(rw[Z,V];done))
  have H:=zol (h:=h) h0 U (by omega);obtain⟨hE,Z⟩:=H;refine gq ?_;refine ym ?_ ?_;all_goals(first|exact zE Z|exact zE hE|(rw[Z,V];done))
def zd7(m:Mn)(l:List Bt)(h:Hb)(hl:l.length<=1000000):Fn prog 85 [mnA m,btsA l,hbA h] (chsA (chV m l h)):=by
 have V:[]=chV m (l.take 0) h:=by unfold chV;rfl
 refine kF func85 ntmps85 (λg w d=>?_);apply ye;iterate 2 refine zH ?_
 refine ya ?_;apply yG;refine yh ?_;iterate 2 apply yf
 refine kJ (yI zd5 56 1 7 30 rfl rfl) ?_;apply yj;refine yE ?_;apply kB;refine zu (λk=>[(3,.ptr 3 0 0 0),(5,.ptr 5 0 0 0),(7,.own 30),(10,btsA l),(11,iv (l.length:Int)),(12,iv (k:Int))]) (λk=>[(3,.box (mnE m) 23),(5,.box (hbE h) 32),(30,.row zd5 (chV m (l.take k) h) 56 1)]) l.length (λk I=>?_);refine gd ?_ ?_<;>intro U
 ·obtain⟨b,Z⟩:∃b,l[k]? =some b:=⟨_,lgg (by omega)⟩;have T:l[(k:Int).toNat]? =some b:=by simpa using Z
  have hs:=zu3 (m:=m) (h:=h) Z;have N:(chV m (l.take k) h).length<=1000000:=by rw[zd0,jM];omega
  refine gq ?_;refine yP (zdo m b h) ?_;refine yD zd5 [frV m b h] ?_;refine gq ?_;refine yz (k+1) (hI:=yi)
 ·obtain rfl:k=l.length:=by omega
  have J:chV m (l.take l.length) h=chV m l h:=by rw[jH]
  apply kO;apply ye;refine yO ?_;refine kE ?_;refine kA (k9 (k:=30) rfl) ?_;refine gq ?_;all_goals(exact j5 (λz=>chsA z) J)
def zah(l:List Bt)(R:List Bool)(hl:l.length<=4000000000):Fn prog 77 [btsA l,zaP R,.fn 78 []] (.bool (decide (l.map (·.Rest)=R))):=by
 refine kF func77 ntmps77 (λg w d=>?_);refine gd ?_ ?_<;>intro V
 ·have U:decide (l.map (·.Rest)=R)=false:=by rw[jR];intro e;rw[←e,jX]at V;exact V rfl
  refine gq ?_;all_goals rw[U]
 have N:l.length=R.length:=by omega
 apply yk;apply yf;apply ye;refine yE ?_;apply kB;refine zM (λk=>[(1,zaP R),(2,.fn 78 []),(15,btsA l),(16,iv (l.length:Int)),(17,iv (k:Int))]) (λk=>[]) (λk=>k<=l.length/\(l.take k).map (·.Rest)=R.take k) l.length (λk I=>?_) (hJ:=by exact⟨by omega,by simp⟩);obtain⟨H,Z⟩:=I;refine gd ?_ ?_<;>intro G
 ·obtain⟨b,J⟩:∃b,l[k]? =some b:=⟨_,lgg (by omega)⟩;have E:l[(k:Int).toNat]? =some b:=by simpa using J
  obtain⟨r,hr⟩:∃r,R[k]? =some r:=⟨_,lgg (by omega)⟩;have xT:R[(k:Int).toNat]? =some r:=by simpa using hr
  refine gc (zk8 b r) ?_;refine gd ?_ ?_<;>intro T
  ·have U:decide (l.map (·.Rest)=R)=false:=by rw[jR];exact zwD J hr (by simpa using T)
   refine gq ?_;all_goals rw[U]
  refine gq ?_;refine yz (k+1) (hJ:=by exact⟨by omega,zy7 J hr Z (by simpa using T)⟩) (hI:=yi)
 ·obtain rfl:k=l.length:=by omega
  have U:decide (l.map (·.Rest)=R)=true:=by rw[jU];rw[jH,N,jH]at Z;exact Z
  refine gq ?_;all_goals rw[U]
end
end Go.Rse
namespace Go.Rse
open Go Go.RowKit Go.Proofs.Tryz
section
section
variable{P:Program}{C:Ctx}{st:St}{ty:TypeId}{Q:Exit->St->Prop}
def zme{α:Type}{enc:α->List AV}{l:List α}{g:Gh}{a:Act}{w:World}{v:Value}{s:Nat}{ρ:Nat->Value}(hr:Rel C st g a w)(hv:RV g.I ρ (.sl enc l) v)(hs:0<s)(he:∀z,(enc z).length=s):
 ∃A c news,v=.slice A l.length c/\l.length<=c/\news.length=l.length*s/\RVL g.I noNames (l.flatMap enc) news/\(l≠[]->∃b o,A=some ⟨b,o,none⟩/\∀j u,news[j]? =some u->w.cell? ⟨b,o+j,none⟩=some u):=by
 obtain⟨A,b,o,s',c,vs,e,hA,U,_,h1,h2,h3⟩:=zcY hv
 have T:l≠[]->s'=s:=λV=>by
  cases l with
  |nil=>grind
  |cons p r=>exact(h1 0 p (by simp)).symm.trans (he p)
 have N:∀(i:Nat)x,l[i]? =some x->(enc x).length=s:=λi x _=>he x
 have Z:∀j u,((List.range (l.length*s)).map λq=>vs (q/s) (q%s))[j]? =some u->j<l.length*s/\u=vs (j/s) (j%s):=λj u E=>by
  grind
 refine⟨A,c,(List.range (l.length*s)).map λq=>vs (q/s) (q%s),e,U,by simp,⟨by simp[zG l N],λj c v hc hv=>?_⟩,λV=>⟨b,o,hA V,λj u E=>?_⟩⟩
 ·obtain⟨J,rfl⟩:=Z j v hv;have H:j/s<l.length:=uQ (by rw[wV];exact J);have G:j/s*s+j%s=j:=by rw[wV];exact v6 j s
  have xT:j%s<s:=x7 _ hs;have hp:=lgg H
  grind[zdF]
 ·obtain⟨J,rfl⟩:=Z j u E;have H:j/s<l.length:=uQ (by rw[wV];exact J);have G:j/s*s+j%s=j:=by rw[wV];exact v6 j s
  have e2:=T V;subst e2;have:=h2 (j/s') _ (j%s') (lgg H) (x7 _ hs);have h4:=(hr.sat.im _ _ _ this).1
  grind
def zy8{c:Code}{α:Type}{enc:α->List AV}{l:List α}(t kh:Nat)(h:∀A n,l.length<=n->X P C c ⟨(t,.val (.slice A l.length n))::st.t,(kh,.hold [.slice A l.length n] [.sl enc l])::st.h⟩ Q)
 (hx:lk st.t t=some (.sl enc l):=by exact rfl):X P C c st Q:=λg a w hr=>by
 have hv:=hr.tmps t _ hx;obtain⟨A,b,o,s,n,vs,e,I,T,-⟩:=zcY hv
 have V:=hr.withBlk (k:=kh) (B:=.hold [.slice A l.length n] [.sl enc l]) ⟨rfl,λj c' v N J=>by
  grind⟩
 refine h A n T g a w ⟨V.size,V.defers,λt' x Z=>?_,V.sat,V.ext⟩;simp only[yq]at Z;cases U:t.beq t'<;>simp[U]at Z
 ·exact V.tmps t' x Z
 ·have:t=t':=by simpa using U
  subst this;subst Z;rw[e];exact .val _
def zj3{A:Option Addr}{n c:Nat}{x:Operand}{t E:TypeId}(hx:ev st x=some (.val (.slice A n c)))(h:slOk P t E=true):
 Pur P C (.call {callee:=.builtin .len,args:= #[x],argTypes:= #[t]}) ty st (.int .i64 n):=λg a w dst pos af gd hr=>
 ⟨_,zfd h (zbF (yy hr hx)),.int _ _⟩
def zo9(a:Addr):a.add 0=a:=by rfl
def zwE{A:Option Addr}{n c s:Nat}{x y z:Operand}{t E:TypeId}{ag:Bool}(hx:ev st x=some (.val (.slice A n c)))(V:ev st y=some (.int .i64 n))(U:ev st z=some (.int .i64 n))(ht:slOk P t E=true)(hE:tyOk P E ag s=true)(Z:n<=c):
 Pur P C (.slice t x none (some y) (some z)) ty st (.val (.slice A n n)):=λg a w dst pos af gd hr=>by
 have ex:=zbF (yy hr hx);have ey:=y7 (yy hr V);have ez:=y7 (yy hr U)
 have T:(Instr.sliceBounds true n c none (some (.int .i64 (n:Int))) (some (.int .i64 (n:Int)))).run P w=.ok (0,n,n) w:=by
  simp[Instr.sliceBounds,Instr.sliceBound,asIntOf,Z]
 refine⟨_,?_,.val _⟩
 have hm:(if n=0 then A else Option.map (λx=>x.add 0) A)=A:=by
  simp[zo9]
 simp[execOp,Instr.sliceAt,Instr.slice,run_underlying (zj ht),ex,ey,ez,T,y4 hE,hm]
def zjx{α:Type}{enc:α->List AV}{l l2:List α}{A:Option Addr}{c k kh:Nat}{t E:TypeId}{z:Value}{s bytes:Nat}{x y:Operand}
 (hx:ev st x=some (.val (.slice A l.length l.length)))(hh:lk st.h kh=some (.hold [.slice A l.length c] [.sl enc l]))(hy:ev st y=some (.sl enc l2))(ht:slOk P t E=true)(hi:zX P E z s bytes)(hs:0<s)(x0:bytes<=1024)(he:∀z,(enc z).length=s)
 (h2:0<l2.length)(J:l.length+l2.length<=4000000000):yA P C (.call {callee:=.builtin .append,args:= #[x,y],argTypes:= #[t,t]}) ty st (.own k) (some (k,.row enc (l++l2) E s)):=
 zae λg a w dst pos af gd hr=>by
  obtain⟨i,H,G,U,xT,w2⟩:=hi;have T:=zj ht;have ex:=zbF (yy hr hx);obtain⟨A2,c2,news,ey,u2,N,k4,x4⟩:=zme (s:=s) hr (yy hr hy) hs he;obtain⟨_,hq⟩:=hr.sat.blk kh _ hh;obtain⟨A1,c1,olds,e1,u1,V,k3,hold⟩:=zme (s:=s) hr (hq 0 _ _ rfl rfl) hs he;injection e1 with e1 _ _;subst e1;obtain⟨b2,o2,v9,j2⟩:=x4 (uS.1 h2);subst v9
  have x3:(l.length+l2.length)*bytes<=140737488355328:=by
   have:(l.length+l2.length)*bytes<=4000000000*1024:=xY J x0;omega
  have x2:∀(i:Nat)x,(l++l2)[i]? =some x->(enc x).length=s:=λi x _=>he x
  have v8:RVL g.I noNames ((l++l2).flatMap enc) (olds++news):=by grind[RVL]
  have v5:(olds++news).length=(l.length+l2.length)*s:=by grind
  have main:∃cap,(Builtin.append_ #[t,t] ty #[.slice A l.length l.length,.slice (some ⟨b2,o2,none⟩) l2.length c2]).run P w=.ok (.slice (some ⟨w.heap.size,0,none⟩) (l.length+l2.length) cap) (w.drew.alloc (.cells (olds.toArray++news.toArray++Builtin.zeroCells z.cells (cap-(l.length+l2.length))) E))/\l.length+l2.length<=cap/\cap<=maxLen:=by
   have v4:l.length+l2.length<=maxLen:=by simp only[maxLen];omega
   have j0:=grownCap_ge w (l.length+l2.length) l.length E;have x1:=grownCap_le_maxLen w (l.length+l2.length) l.length E v4;have Z:∀j u,news[j]? =some u->w.cell? ((⟨b2,o2,none⟩:Addr).add j)=some u:=λj u T=>by grind[zK]
   cases hA:A with
   |none=>
    have v3:l=[]:=by
     cases l with
     |nil=>rfl
     |cons p r=>obtain⟨b,o,h,_⟩:=hold (by simp);rw[hA]at h;cases h
    subst v3;have ho:olds=[]:=jN (by simpa using V);subst ho;have v1:=run_append_nil (P:=P) w t ty E i z T H G ⟨b2,o2,none⟩ l2.length c2 news (by rw[U];exact N) Z h2 (by omega) (by rw[xT];simp only[wK,vM]at x3;omega)
    grind
   |some ad=>
    have v0:∀j u,olds[j]? =some u->w.cell? (ad.add j)=some u:=λj u T=>by
     have u4:l≠[]:=λe=>by
      subst e;have:olds=[]:=jN (by simpa using V);rw[this]at T;simp at T
     obtain⟨b,o,h,hc⟩:=hold u4;rw[hA]at h;injection h with h;subst h;rw[zK];exact hc j u T
    have v1:=run_append_grow (P:=P) w t ty E i z T H G ad l.length l.length olds (by rw[U];exact V) v0 ⟨b2,o2,none⟩ l2.length c2 news (by rw[U];exact N) Z (by omega) (by omega) (growslice_fits (by omega) (by rw[xT];exact x3))
    grind
  obtain⟨cap,k5,u3,x1⟩:=main;have hg:Grow w (w.drew.alloc (.cells (olds.toArray++news.toArray++Builtin.zeroCells z.cells (cap-(l.length+l2.length))) E)):=(Grow.drew w).trans (Grow.alloc _ _);refine⟨.slice (some ⟨w.heap.size,0,none⟩) (l.length+l2.length) cap,_,g.nw C.d w.heap.size k (.slice (some ⟨w.heap.size,0,none⟩) (l.length+l2.length) cap),?_,Add.nw hg C.d k _,.own k _ _ _ (by simp[Gh.nw]),ImOB.nw ⟨hr.sat.im,hr.sat.ob⟩ hg (by simp) C.d k _,λk' B hB=>?_⟩
  ·simp_all[execOp,resolve,invoke,builtin]
  ·injection hB with hB;injection hB with e1 e2;subst e1;subst e2;refine⟨olds++news,?_,x2,zbr x2 v8,λb hb=>?_⟩
   ·simp only[Gh.nw,if_true,jE];refine⟨v5,.inr ⟨w.heap.size,cap,_,rfl,w7 _,heap_alloc_new w.drew _,u3,x1,?_,?_⟩⟩
    ·simp only[Array.size_append,List.size_toArray,size_zeroCells,w2,V,N,←Nat.add_mul];congr 1;omega
    grind
   ·simp only[Gh.nw,if_true,yY]at hb;injection hb with hb;subst hb;exact⟨by simp[Gh.nw],.inl hr.ext.size⟩
end
end
section
def nlA{α:Type}(enc:α->List AV):Option (List α)->AV
 |none=>.nils
 |some l=>.sl enc l
section
variable{P:Program}{C:Ctx}{st:St}{ty:TypeId}{Q:Exit->St->Prop}
def zld{T E:TypeId}{w:World}(Z:P.underlying T=some (.slice E))(A:Option Addr)(n c:Nat):(Op.equal T (.slice A n c) (.slice none 0 0)).run P w=.ok A.isNone w:=by
 unfold Op.equal;rw[show Op.maxDepth=9999+1 from rfl];unfold Op.equalIn;cases A<;>simp[run_underlying Z]
def zqX{α:Type}{enc:α->List AV}{o:Option (List α)}{I:Im}{ρ:Nat->Value}{v:Value}(h:RV I ρ (nlA enc o) v)(Z:∀l,o=some l->l≠[]):∃A n c,v=.slice A n c/\A.isNone=!o.isSome:=by
 cases o with
 |none=>exact⟨none,0,0,zdE h,rfl⟩
 |some l=>
  obtain⟨A,b,o,s,c,vs,e,V,-⟩:=zcY h;exact⟨A,_,c,e,by rw[V (Z l rfl)];rfl⟩
def zwF{α:Type}{enc:α->List AV}{o:Option (List α)}{T E:TypeId}{x:Operand}{yt:TypeId}(V:P.underlying T=some (.slice E))(hx:ev st x=some (nlA enc o))(Z:∀l,o=some l->l≠[]):Pur P C (.binOp .neq T x (.const (.slice none 0 0)) yt) ty st (.bool o.isSome):=λg a w dst pos af gd hr=>by
 obtain⟨A,n,c,e,h⟩:=zqX (yy hr hx) Z;have e0:a.eval (.const (.slice none 0 0))=.slice none 0 0:=rfl;refine⟨.bool o.isSome,?_,.bool _⟩;have U:(eqGuard .neq T x (.const (.slice none 0 0)) (.slice A n c) (.slice none 0 0)).run P w=.ok () w:=by unfold eqGuard;simp
 have N:=zld (P:=P) (w:=w) V A n c;simp only[execOp,e,e0,jK,U,j9,binOp,N,jL,h,Bool.not_not]
def zqY{α:Type}{enc:α->List AV}{o:Option (List α)}{T E:TypeId}{x:Operand}{yt:TypeId}(V:P.underlying T=some (.slice E))(hx:ev st x=some (nlA enc o))(Z:∀l,o=some l->l≠[]):Pur P C (.binOp .eql T x (.const (.slice none 0 0)) yt) ty st (.bool (!o.isSome)):=λg a w dst pos af gd hr=>by
 obtain⟨A,n,c,e,h⟩:=zqX (yy hr hx) Z;have e0:a.eval (.const (.slice none 0 0))=.slice none 0 0:=rfl;refine⟨.bool (!o.isSome),?_,.bool _⟩;have U:(eqGuard .eql T x (.const (.slice none 0 0)) (.slice A n c) (.slice none 0 0)).run P w=.ok () w:=by unfold eqGuard;simp
 have N:=zld (P:=P) (w:=w) V A n c;simp only[execOp,e,e0,jK,U,j9,binOp,N,jL,h]
def zwG{ops:Array Oper}{rest:List Oper}{d:Nat}{pos:String}{af:Array Edge}{α:Type}{enc:α->List AV}{l:List α}{T E:TypeId}{x:Operand}{yt:TypeId}(h:∀b:Bool,(l≠[]->b=false)->Ex P C ops rest ⟨(d,.bool b)::st.t,st.h⟩ Q)
 (V:P.underlying T=some (.slice E))(hx:ev st x=some (.sl enc l):=by exact rfl)(U:dOk C.n (some d)=true:=by exact rfl):
 Ex P C ops ({dst:=some d,op:=.binOp .eql T x (.const (.slice none 0 0)) yt,type:=ty,pos:=pos,after:=af,guard:=none}::rest) st Q:=λg a w hr=>by
 obtain⟨A,b,o,s,c,vs,e,N,-⟩:=zcY (yy hr hx);have e0:a.eval (.const (.slice none 0 0))=.slice none 0 0:=rfl;have J:(eqGuard .eql T x (.const (.slice none 0 0)) (.slice A l.length c) (.slice none 0 0)).run P w=.ok () w:=by unfold eqGuard;simp
 have I:=zld (P:=P) (w:=w) V A l.length c;refine wpListIn_plain rfl λK' H=>zau ?_
 simp only[wp1,execOp,e,e0,jK,J,j9,binOp,I,jL,zcn];refine H _ _ ?_;exact h A.isNone (λZ=>by rw[N Z];rfl) _ _ _ (hr.addSt (nb:=none) (d:=some d) (x:=.bool A.isNone) (v:=.bool A.isNone) (Add.refl _ g w) U rfl (.bool _) hr.sat.im hr.sat.ob (λ_ _ h=>by cases h))
end
end
end Go.Rse
