/-
  Walks.
-/
import Derived.Test.YtbopkhoalndflaaGreatDoorYJRef22d
set_option linter.all false
namespace Go.Rse
open Go Go.Proofs Go.Proofs.Tryz
section
def fiV(m:Mn)(D:List Tm)(C:List (List (List Sg)))(run:List Sg):List Sg:=if C=[]then run else(srV m D C run).getD []
def zBs(m:Mn)(D:List Tm)(run:List Sg):fiV m D [] run=run/\(srV m D [] run).isSome=(decide (rdE m run=0)&&decide ((rdV m run).Durs=D)):=by
 grind[fiV,srV,reQ]
def zsx{m:Mn}{D:List Tm}{C:List (List (List Sg))}{run x:List Sg}(h:srV m D C run=some x):fiV m D C run=x:=by
 grind[fiV,srV]
def zBt(m:Mn)(D:List Tm)(F:List (List Sg))(C:List (List (List Sg)))(run:List Sg)(h:srV m D (F::C) run=none):fiV m D (F::C) run=[]:=by
 simp_all[fiV]
def afE(m:Mn)(l:List Bt)(h:Hb):Int:=if wcnE m l h=0 then(if wcnV m l h=0 then 18 else 0)else wcnE m l h
def afV(m:Mn)(l:List Bt)(h:Hb):List (List (List Sg)):=if afE m l h=0 then chV m l h else[]
theorem zsy{m:Mn}{l:List Bt}{h:Hb}(c:¬wcnE m l h=0):afE m l h=wcnE m l h/\afV m l h=[]:=by
 simp_all[afE,afV]
def zyr{m:Mn}{l:List Bt}{h:Hb}(c:wcnE m l h=0)(c2:wcnV m l h=0):afE m l h=18/\afV m l h=[]:=by
 simp_all[afE,afV]
def zys{m:Mn}{l:List Bt}{h:Hb}(c:wcnE m l h=0)(c2:¬wcnV m l h=0):afE m l h=0/\afV m l h=chV m l h:=by
 simp_all[afE,afV]
def zuG{m:Mn}{l:List Bt}{h:Hb}(c:wcnE m l h=0):wcE m l=0:=by
 grind[zqV]
def zsz{m:Mn}{l:List Bt}{h:Hb}(c:wcnE m l h=0):wcnV m l h=(cnP m h l:Int):=by unfold wcnV;rw[j3 c]
def zyt{m:Mn}{l:List Bt}{h:Hb}(c:afE m l h=0):(afV m l h).length<=1000000/\(∀f∈afV m l h,f.length<=32/\∀s∈f,1<=s.length/\s.length<=2)/\([]:List Sg).length+2*((afV m l h).length-0)<=1000:=by
 have h0:wcnE m l h=0:=by
  grind[zsy]
 have Z:=ziB h0;have V:afV m l h=chV m l h:=by unfold afV;rw[j3 c]
 rw[V,zd0];exact⟨by omega,zkR m l h,by grind⟩
def zv9{m:Mn}(hm:ckM m=0):reQ m [] []=true:=by
 have key:∀a b c d:Bool,reQ ⟨bif a then 2 else 3,bif b then 2 else 3,bif c then 2 else 3,bif d then 2 else 3⟩ [] []=true:=by decide+kernel
 obtain⟨p,q,r,s⟩:=m
 have h:(p=2\/p=3)/\(q=2\/q=3)/\(r=2\/r=3)/\(s=2\/s=3):=by
  unfold ckM at hm;split at hm
  ·rename_i h;exact h
  ·cases hm
 obtain⟨Z,V,U,T⟩:=h;rcases Z with rfl|rfl<;>rcases V with rfl|rfl<;>rcases U with rfl|rfl<;>rcases T with rfl|rfl
 ·exact key true true true true
 ·exact key true true true false
 ·exact key true true false true
 ·exact key true true false false
 ·exact key true false true true
 ·exact key true false true false
 ·exact key true false false true
 ·exact key true false false false
 ·exact key false true true true
 ·exact key false true true false
 ·exact key false true false true
 ·exact key false true false false
 all_goals rfl
attribute [local irreducible] Pur yA yC Ex X Fn Imp LeV LeB FnO It yH FnW FnOW FnP FnD
attribute [local irreducible] wcE wcnE wcnV frV chV durB rdE rdV srV wrE wrV fiV afE afV
set_option maxHeartbeats 4000000 in
def zcJ(m:Mn)(D:List Tm)(n:Nat)(F:List (List (List Sg)))(i:Nat)(run:List Sg)(hn:F.length-i=n)(hi:i<=F.length)(hF:F.length<=1000000)(G:∀f∈F,f.length<=32/\∀s∈f,1<=s.length/\s.length<=2)(hr:run.length+2*(F.length-i)<=1000):Fn prog 87 [mnA m,tmsA D,chsA F,iv (i:Int),sgsA run] (.tup [sgsA (fiV m D (F.drop i) run),.bool (srV m D (F.drop i) run).isSome]):=by
 induction n using Nat.strongRecOn generalizing i run
 rename_i n ih;refine kF func87 ntmps87 (λg w d=>?_);refine gd ?_ ?_<;>intro E
 ·obtain rfl:i=F.length:=by omega
  have Q:=zBs m D run;obtain⟨V,hB⟩:=Q;refine gc (zfs m run D (by omega)) ?_;refine ym ?_ ?_;all_goals simp_all
 obtain⟨f,hf⟩:∃f,F[i]? =some f:=⟨_,lgg (by omega)⟩;have xT:F[(i:Int).toNat]? =some f:=by simpa using hf
 have Z:F.drop i=f::F.drop (i+1):=by grind[List.drop_eq_getElem_cons]
 have N:=G f (j6 hf);refine gq ?_
 refine zd3 (ι:=Nat) (λ(k:Nat)=>[(1,tmsA D),(2,chsA F),(3,iv (i:Int)),(4,sgsA run),(5,.ptr 5 0 0 0),(12,iv (k:Int))]) (λ(k:Nat)=>[(5,.box (mnE m) 23)]) (λ(k:Nat)=>k<=f.length/\(f.take k).findSome? (λs=>srV m D (F.drop (i+1)) (run++s))=none) (λ(k:Nat)=>f.length-k) 0 (λk hk=>?_) (hJ:=by
  simp_all) (h0:=by exact yi)
 obtain⟨x4,U⟩:=hk;refine gd ?_ ?_<;>intro x3
 ·obtain⟨s,hs⟩:∃s,f[k]? =some s:=⟨_,lgg (by omega)⟩;have x2:f[(k:Int).toNat]? =some s:=by simpa using hs
  have x1:=N.2 s (j6 hs);refine gq ?_;refine kW [⟨1,35,sgsA run,[]⟩,⟨3,37,chsA F,[]⟩,⟨4,38,iv (i:Int),[]⟩,⟨5,39,.ept zd5 f 0,[4,3]⟩,⟨6,40,zca f,[4,3,5]⟩,⟨7,41,iv (k:Int),[]⟩,⟨8,42,.ept sgsE s 0,[4,3,5,7,6]⟩,⟨9,43,sgsA s,[4,3,5,7,6,8]⟩] [(0,[]),(2,[1,0]),(10,[4,3,5,7,6,8,1,0,9,2]),(11,[9,8,7,6,5,4,3,2,1,0,10])] (λj=>match j with|0=>⟨[(1,tmsA D),(2,chsA F),(3,iv (i:Int)),(4,sgsA run),(5,.ptr 5 0 0 0),(12,iv (k:Int))],[(5,.box (mnE m) 23)]⟩|1=>⟨[(1,tmsA D),(2,chsA F),(3,iv (i:Int)),(4,sgsA run),(5,.ptr 5 0 0 0),(12,iv (k:Int)),(34,.own 34)],[(5,.box (mnE m) 23),(34,.row sgE ([]) 90 17)]⟩|2=>⟨[(1,tmsA D),(2,chsA F),(3,iv (i:Int)),(4,sgsA run),(5,.ptr 5 0 0 0),(12,iv (k:Int)),(36,.own 34)],[(5,.box (mnE m) 23),(34,.row sgE ([]++run) 90 17)]⟩|3=>⟨[(1,tmsA D),(2,chsA F),(3,iv (i:Int)),(4,sgsA run),(5,.ptr 5 0 0 0),(12,iv (k:Int)),(44,.own 34)],[(5,.box (mnE m) 23),(34,.row sgE ([]++run++s) 90 17)]⟩|_=>⟨[(1,tmsA D),(2,chsA F),(3,iv (i:Int)),(4,sgsA run),(5,.ptr 5 0 0 0),(12,iv (k:Int)),(13,.own 34)],[(5,.box (mnE m) 23),(34,.row sgE ([]++run++s) 90 17)]⟩) mo (by kernel_rfl) (zg (yd)) (λj hj=>?_) (λj c T β hβ=>?_) ?_
  ·rcases j with _|_|_|_|_|j
   ·exact yw
   ·exact yw
   ·exact yw
   ·exact yw
   ·exact yw
   simp_all
  ·rcases j with _|_|_|_|j
   ·obtain rfl:(0,[])=c:=by injection T
    refine yo rfl (yn (st0:=⟨[(35,.ifb (β 1) (sgsA run)),(37,.ifb (β 3) (chsA F)),(38,.ifb (β 4) (iv (i:Int))),(39,.ifb (β 5) (.ept zd5 f 0)),(40,.ifb (β 6) (zca f)),(41,.ifb (β 7) (iv (k:Int))),(42,.ifb (β 8) (.ept sgsE s 0)),(43,.ifb (β 9) (sgsA s)),(1,tmsA D),(2,chsA F),(3,iv (i:Int)),(4,sgsA run),(5,.ptr 5 0 0 0),(12,iv (k:Int))],[(5,.box (mnE m) 23)]⟩) (yl) ?_);refine yC.imp (yK (zD (k:=34) (enc:=sgE) (l:=([]:List Sg)) sl33 ty90 ze90 (by decide) rfl rfl rfl rfl (by decide) (by decide) (λ_=>rfl) rfl) rfl rfl) (yl)
   ·obtain rfl:(2,[1,0])=c:=by injection T
    refine yo rfl (yn (st0:=⟨[(35,sgsA run),(37,.ifb (β 3) (chsA F)),(38,.ifb (β 4) (iv (i:Int))),(39,.ifb (β 5) (.ept zd5 f 0)),(40,.ifb (β 6) (zca f)),(41,.ifb (β 7) (iv (k:Int))),(42,.ifb (β 8) (.ept sgsE s 0)),(43,.ifb (β 9) (sgsA s)),(1,tmsA D),(2,chsA F),(3,iv (i:Int)),(4,sgsA run),(5,.ptr 5 0 0 0),(12,iv (k:Int)),(34,.own 34)],[(5,.box (mnE m) 23),(34,.row sgE ([]) 90 17)]⟩) (yl) ?_);refine yC.imp (y6 rfl rfl rfl SlK.h TiK.h (by decide) (by decide) (λ_=>rfl) (λ_=>rfl) (by first|omega|(simp;done)|(simp;omega)|(simp_all;omega)) rfl) (yl)
   ·obtain rfl:(10,[4,3,5,7,6,8,1,0,9,2])=c:=by injection T
    refine yo rfl (yn (st0:=⟨[(35,sgsA run),(37,chsA F),(38,iv (i:Int)),(39,.ept zd5 f 0),(40,zca f),(41,iv (k:Int)),(42,.ept sgsE s 0),(43,sgsA s),(1,tmsA D),(2,chsA F),(3,iv (i:Int)),(4,sgsA run),(5,.ptr 5 0 0 0),(12,iv (k:Int)),(36,.own 34)],[(5,.box (mnE m) 23),(34,.row sgE ([]++run) 90 17)]⟩) (yl) ?_);refine yC.imp (y6 rfl rfl rfl SlK.h TiK.h (by decide) (by decide) (λ_=>rfl) (λ_=>rfl) (by first|omega|(simp;done)|(simp;omega)|(simp_all;omega)) rfl) (yl)
   ·obtain rfl:(11,[9,8,7,6,5,4,3,2,1,0,10])=c:=by injection T
    refine yo rfl (yn (st0:=⟨[(35,sgsA run),(37,chsA F),(38,iv (i:Int)),(39,.ept zd5 f 0),(40,zca f),(41,iv (k:Int)),(42,.ept sgsE s 0),(43,sgsA s),(1,tmsA D),(2,chsA F),(3,iv (i:Int)),(4,sgsA run),(5,.ptr 5 0 0 0),(12,iv (k:Int)),(44,.own 34)],[(5,.box (mnE m) 23),(34,.row sgE ([]++run++s) 90 17)]⟩) (yl) ?_);refine yC.imp (yK (k8 (za6 rfl)) rfl rfl) (yl)
   simp_all
  apply yf;refine kJ (k9 (k:=34) rfl) ?_;refine gc (ih (F.length-(i+1)) (by omega) (i+1) (run++s) rfl (by omega) (by grind)) ?_;refine gd ?_ ?_<;>intro J
  ·have I:=wE.1 J;obtain⟨x,hx⟩:=I;have V:srV m D (F.drop i) run=some x:=by rw[Z];exact zmc (by rw[zok hs U,hx])
   have H:=zsx V;have x0:=zsx hx;refine gq ?_;refine ym ?_ ?_;all_goals simp_all
  have w2:(f.take (k+1)).findSome? (λs=>srV m D (F.drop (i+1)) (run++s))=none:=by simp_all[zok]
  refine gq ?_
  refine yz (k+1) (hJ:=by
   grind) (hI:=yi)
 ·obtain rfl:k=f.length:=by omega
  have V:srV m D (F.drop i) run=none:=by rw[Z];exact zn3 U
  have H:fiV m D (F.drop i) run=[]:=by rw[Z];rw[Z]at V;exact zBt m D f _ run V
  apply kO;apply ye;refine yO ?_;refine kE ?_;refine kA (yd (ts:=[(10,sgsA []),(11,.bool false)]) (hs:=[])) ?_;refine ym ?_ ?_;all_goals simp_all
set_option maxHeartbeats 1000000 in
def zdT(m:Mn)(l:List Bt)(h:Hb)(hl:l.length<=4000000000):Fn prog 86 [mnA m,btsA l,hbA h] (.tup [chsA (afV m l h),iv (afE m l h)]):=by
 have H:[]=chV m (l.take 0) h:=by unfold chV;rfl
 refine kF func86 ntmps86 (λg w d=>?_);refine gc (za2 m l h (by omega)) ?_;refine gd ?_ ?_<;>intro V
 ·have U:=zsy (h:=h) V;obtain⟨hE,T⟩:=U;apply ye;refine yE ?_;refine kE ?_;refine kA (yd (ts:=[(6,chsA []),(7,iv (wcnE m l h))]) (hs:=[])) ?_;refine ym ?_ ?_;all_goals simp_all
 refine gd ?_ ?_<;>intro Z
 ·have Q:=zyr (h:=h) (show wcnE m l h=0 by omega) Z;obtain⟨hE,T⟩:=Q;apply ye;refine yO ?_;refine kE ?_;refine kA (yd (ts:=[(6,chsA []),(7,iv 18)]) (hs:=[])) ?_;refine ym ?_ ?_;all_goals simp_all
 have N:=zys (h:=h) (show wcnE m l h=0 by omega) Z;obtain⟨hE,T⟩:=N;have hw:=zuG (show wcnE m l h=0 by omega);have G:=ziB (show wcnE m l h=0 by omega);apply yk;apply ye;refine yh ?_;iterate 2 apply yf
 refine kJ (yI zd5 56 1 10 30 rfl rfl) ?_;apply yj;refine yh ?_;apply kB;refine zu (λk=>[(1,btsA l),(3,.ptr 3 0 0 0),(5,.ptr 5 0 0 0),(10,.own 30),(11,iv (k:Int))]) (λk=>[(3,.box (mnE m) 23),(5,.box (hbE h) 32),(30,.row zd5 (chV m (l.take k) h) 56 1)]) l.length (λk hk=>?_);refine gd ?_ ?_<;>intro E
 ·obtain⟨b,I⟩:∃b,l[k]? =some b:=⟨_,lgg (by omega)⟩;have xT:l[(k:Int).toNat]? =some b:=by simpa using I
  have hs:=zu3 (m:=m) (h:=h) I;have x4:(chV m (l.take k) h).length<=1000000:=by grind[zd0]
  have J:Fn prog 75 [mnA m,btA b,hbA h] (.tup [zca (frV m b h),iv 0]):=by grind[zck,zql,fmV]
  refine gq ?_;refine yW [12,13,32,33,34,35,36,37,38,39,40,41] [0,0,0,6,14,0,63,127,255,255,511,2047] mo ?_;iterate 6 refine yb ?_
  refine yL J ?_;iterate 5 refine yb ?_
  refine yF ?_;refine gq ?_;refine yD zd5 [frV m b h] ?_;refine gq ?_;refine yz (k+1) (hI:=yi)
 ·obtain rfl:k=l.length:=by omega
  have hT:chV m (l.take l.length) h=afV m l h:=by simp_all
  apply kO;apply ye;refine yE ?_;refine kE ?_;refine kA (k9 (k:=30) rfl) ?_;refine ym ?_ ?_;all_goals(first|exact zE T|exact zE hE|exact j5 (λz=>chsA z) hT|exact j5 (AV.int .i64) hE.symm)
end
section
def zsA(m:Mn)(l:List Bt)(h:Hb):(wrV m l h).length<=24:=by
 by_cases c:wcnE m l h=0
 ·have Z:=ziB c;unfold wrV;rw[j3 c];split
  ·simp
  ·cases hx:wrO m l h with
   |none=>simp
   |some x=>
    unfold wrO at hx;have:=(zhZ (n:=2) (λF V=>(zkR m l h F V).2) hx).2;rw[zd0]at this;simp only[wK,vG]at*
    omega
 ·rw[(zyz c).2];simp
attribute [local irreducible] Pur yA yC Ex X Fn Imp LeV LeB FnO It yH FnW FnOW FnP FnD
attribute [local irreducible] wcnE wcnV wrE wrV
end
end Go.Rse
namespace Go.Rse
open Go Go.RowKit Go.Proofs.Tryz
section
variable{P:Program}{C:Ctx}{st:St}{ty:TypeId}{x y:Operand}{xt yt:TypeId}{p q:Int}
end
end Go.Rse
namespace Go.Rse
open Go Go.Proofs Go.Proofs.Tryz
section
def zsB(r:List Sg)(k:Nat):rsL r=rsL (r.take k)++rsL (r.drop k):=by
 conv=>lhs;rw[←wD k r]
 unfold rsL;rw[wX,xO]
attribute [local irreducible] Pur yA yC Ex X Fn Imp LeV LeB FnO It yH FnW FnOW FnP FnD
attribute [local irreducible] wcE ckD durB rdE rdV rsL wisE wisB
end
section
end
section
attribute [local irreducible] Pur yA yC Ex X Fn Imp LeV LeB FnO It yH FnW FnOW FnP FnD
attribute [local irreducible] wcE wcnE wcnV frV chV wisE wisB durB
end
section
def uE:Unit->List AV:=λ_=>[]
def ziv{P:Program}{C:Ctx}{st:St}{ty:TypeId}{α:Type}{enc:α->List AV}{l:List α}{x:Operand}{k s:Nat}{E:TypeId}(hx:ev st x=some (.own k))(Z:lk st.h k=some (.row enc l E s)):Pur P C (.move x) ty st (.sl uE (List.replicate l.length ())):=λg a w dst pos af gd hr=>by
 obtain⟨xs,ho,-⟩:=hr.sat.blk k _ Z;refine⟨_,rfl,?_⟩;rw[←zZ (yy hr hx)];rcases ho with⟨-,⟨e1,e2⟩|⟨b,cap,cur,e1,-,-,V,U,-⟩⟩
 ·rw[e1,e2];exact .sl uE [] none 0 0 0 0 (λ_ _=>.nilIface) (λh=>absurd rfl h) (jD _) (w7 _) (λi x h=>by simp at h) (λi x j h=>by simp at h) (λi x j c h=>by simp at h)
 ·rw[e1];have h:=RV.sl (I:=g.I) (ρ:=g.ρ) uE (List.replicate l.length ()) (some ⟨b,0,none⟩) b 0 0 cap (λ_ _=>.nilIface) (λ_=>rfl) (by simpa using V) U (λi x _=>rfl) (λi x j _ T=>absurd T (wT _)) (λi x j c _ Q=>by simp[uE]at Q);simpa using h
attribute [local irreducible] Pur yA yC Ex X Fn Imp LeV LeB FnO It yH FnW FnOW FnP FnD
attribute [local irreducible] wcE wcnE wcnV rdE rdV bsV zbV rsL ckD
end
section
theorem zn0{m:Mn}(Z:reQ m [] []=true)(h:Hb):wyL m [] h=[[]]:=by
 show([[]]:List (List Sg)).filter (λx=>reQ m x (durB []))=[[]]
 grind[durB]
def zuH{m:Mn}{z:List Bt}{b:Hb}(Z:wcE m z=0)(V:wcnE m z b=0)(U:reQ m [] []=true)(h:(wyL m z b).length=0):wrE m z b=18:=by
 grind[zn0,wrE,zqm]
def zmU{m:Mn}{z:List Bt}{b:Hb}{u:List Sg}(Z:wcE m z=0)(V:wcnE m z b=0)(U:reQ m [] []=true)(h:(wyL m z b)[0]? =some u):wrE m z b=0/\wrV m z b=u:=by
 grind[wrE,wrV,zn0,zqm,List.head?_eq_getElem?]
end
section
attribute [local irreducible] Pur yA yC Ex X Fn Imp LeV LeB FnO It yH
attribute [local irreducible] abvK roA stp
def zgv(m:Mn)(v:Int)(h0:1<=v)(I:v<=1000000):Fn prog 134 [mnA m,iv v] (.bool (abvK m v)):=by
 refine kF func134 ntmps134 (λg w d=>?_);apply ye;refine zH ?_;refine yh ?_;apply yf;apply ye;refine yE ?_;apply kB;refine zM (λk=>[(1,iv v),(2,.ptr 2 0 0 0),(5,iv (v-1-(k:Int)))]) (λk=>[(2,.box (mnE m) 23)]) (λk=>(k:Int)<=v-1/\∀u,v-1-(k:Int)<u->u<v->¬m.p u=3) v.toNat (λk Q=>?_) (hJ:=by exact⟨by omega,λu T U=>by omega⟩) (h0:=yd);obtain⟨N,Z⟩:=Q;refine gd ?_ ?_<;>intro J
 ·refine gc (zgm m (v-1-(k:Int))) ?_;refine gd ?_ ?_<;>intro V
  ·refine gq ?_;all_goals(congr 1;exact(zpC (by omega) (by omega) V).symm)
  refine gq ?_
  refine yz (k+1) (hJ:=by
   refine⟨by omega,λu T U=>?_⟩;by_cases e:u=v-1-(k:Int)
   ·rw[e];exact V
   ·exact Z u (by omega) U)
 ·refine gq ?_;all_goals(congr 1;exact(zrS λu T U=>Z u (by omega) (by omega)).symm)
def zaA(m:Mn)(l:List Sg)(p:Int)(o1 d1:Bool)(s:Sg)(b:Bool)(hl:l.length<=2000):FnO prog 133 [.ptr 2000000 0 0 0,sgA s,.bool b] [(2000000,.box [.str ⟨#[]⟩,.own 2000010,iv m.Max,iv m.Mod,iv m.Tem,iv m.Pro,iv p,.bool o1,.bool d1] 171),(2000010,.row sgE (l) 90 17)] [2000000] (.tup []) [(2000000,.box [.str ⟨#[]⟩,.own 2000011,iv m.Max,iv m.Mod,iv m.Tem,iv m.Pro,iv p,.bool o1,.bool b] 171),(2000011,.row sgE (l++[s]) 90 17)]:=by
 refine kX (ts:=[(0,.ptr 2000000 0 0 0),(1,sgA s),(2,.bool b)]) (rv:=[]) (n:=22) (cs:=[.ptr 2000000 0 0 0]) (by kernel_rfl) func133 rfl ntmps133 rfl rfl (by simp) rfl rfl rfl rfl (λg w d vs=>?_);refine gq ?_;refine kW [⟨0,6,.ptr 2000000 0 0 0,[]⟩,⟨1,7,.ptr 2000000 0 0 0,[]⟩,⟨2,8,.ptr 2000000 0 0 0,[1]⟩,⟨3,9,.ptr 2000000 0 0 0,[1,2]⟩,⟨4,10,.ptr 2000000 0 0 1,[1,2,3]⟩,⟨6,12,sgA s,[]⟩,⟨7,13,sgsA [s],[6]⟩,⟨9,15,.ptr 2000000 0 0 0,[8,7,6,5,4,3,2,1,0]⟩,⟨10,16,.ptr 2000000 0 0 0,[8,7,6,5,4,3,2,1,0,9]⟩,⟨11,17,.ptr 2000000 0 0 1,[9,8,7,6,5,4,3,2,1,0,10]⟩] [(5,[1,2,3,4]),(8,[1,2,3,6,4,7,5]),(12,[9,10,7,6,5,4,3,2,1,0,8,11])] (λj=>match j with|0=>⟨[(0,.ptr 2000000 0 0 0),(2,.bool b),(4,.ptr 4 0 0 0)],[(1000001,.hold vs [.ptr 2000000 0 0 0]),(2000000,.box [.str ⟨#[]⟩,.own 2000010,iv m.Max,iv m.Mod,iv m.Tem,iv m.Pro,iv p,.bool o1,.bool d1] 171),(2000010,.row sgE (l) 90 17),(4,.box (sgE s) 90)]⟩|1=>⟨[(0,.ptr 2000000 0 0 0),(2,.bool b),(4,.ptr 4 0 0 0),(11,.own 2000010)],[(1000001,.hold vs [.ptr 2000000 0 0 0]),(2000000,.box [.str ⟨#[]⟩,.own 2000010,iv m.Max,iv m.Mod,iv m.Tem,iv m.Pro,iv p,.bool o1,.bool d1] 171),(2000010,.row sgE (l) 90 17),(4,.box (sgE s) 90)]⟩|2=>⟨[(0,.ptr 2000000 0 0 0),(2,.bool b),(4,.ptr 4 0 0 0),(14,.own 2000010)],[(1000001,.hold vs [.ptr 2000000 0 0 0]),(2000000,.box [.str ⟨#[]⟩,.any,iv m.Max,iv m.Mod,iv m.Tem,iv m.Pro,iv p,.bool o1,.bool d1] 171),(2000010,.row sgE (l++[s]) 90 17),(4,.box (sgE s) 90)]⟩|_=>⟨[(0,.ptr 2000000 0 0 0),(2,.bool b),(4,.ptr 4 0 0 0)],[(1000001,.hold vs [.ptr 2000000 0 0 0]),(2000000,.box [.str ⟨#[]⟩,.own 2000010,iv m.Max,iv m.Mod,iv m.Tem,iv m.Pro,iv p,.bool o1,.bool d1] 171),(2000010,.row sgE (l++[s]) 90 17),(4,.box (sgE s) 90)]⟩) mo (by kernel_rfl) (zg (yd)) (λj V=>?_) (λj c Z β hβ=>?_) ?_
 ·rcases j with _|_|_|_|j
  ·(iterate 2 refine⟨.inr ⟨_,rfl,rfl,rfl,rfl,k8 yJ⟩,?_⟩);refine⟨.inr ⟨_,rfl,rfl,rfl,rfl,k8 (yg rfl)⟩,?_⟩;(iterate 2 refine⟨.inr ⟨_,rfl,rfl,rfl,rfl,k8 (za rfl rfl)⟩,?_⟩);refine⟨.inr ⟨_,rfl,rfl,rfl,rfl,k8 yJ⟩,?_⟩;refine⟨.inr ⟨_,rfl,rfl,rfl,rfl,yu (enc:=sgE) (l:=[s]) sl33 ty90 ze90 (by decide) rfl rfl rfl rfl (by decide) (by decide) (λ_=>rfl) rfl⟩,?_⟩;exact yw
  ·refine⟨.inr ⟨_,rfl,rfl,rfl,rfl,k8 yJ⟩,?_⟩;(iterate 4 refine⟨.inl rfl,?_⟩);refine⟨.inr ⟨_,rfl,rfl,rfl,rfl,k8 yJ⟩,?_⟩;refine⟨.inr ⟨_,rfl,rfl,rfl,rfl,yu (enc:=sgE) (l:=[s]) sl33 ty90 ze90 (by decide) rfl rfl rfl rfl (by decide) (by decide) (λ_=>rfl) rfl⟩,?_⟩;exact yw
  ·exact yw
  ·exact yw
  ·exact absurd (show j+4<=3 from V) (by omega)
 ·rcases j with _|_|_|j
  ·obtain rfl:(5,[1,2,3,4])=c:=by injection Z
   refine yo rfl (yn (st0:=⟨[(6,.ifb (β 0) (.ptr 2000000 0 0 0)),(7,.ptr 2000000 0 0 0),(8,.ptr 2000000 0 0 0),(9,.ptr 2000000 0 0 0),(10,.ptr 2000000 0 0 1),(12,.ifb (β 6) (sgA s)),(13,.ifb (β 7) (sgsA [s])),(15,.ifb (β 9) (.ptr 2000000 0 0 0)),(16,.ifb (β 10) (.ptr 2000000 0 0 0)),(17,.ifb (β 11) (.ptr 2000000 0 0 1)),(0,.ptr 2000000 0 0 0),(2,.bool b),(4,.ptr 4 0 0 0)],[(1000001,.hold vs [.ptr 2000000 0 0 0]),(2000000,.box [.str ⟨#[]⟩,.own 2000010,iv m.Max,iv m.Mod,iv m.Tem,iv m.Pro,iv p,.bool o1,.bool d1] 171),(2000010,.row sgE (l) 90 17),(4,.box (sgE s) 90)]⟩) (yl) ?_);refine yC.imp (yK (k8 yJ) rfl rfl) (yl)
  ·obtain rfl:(8,[1,2,3,6,4,7,5])=c:=by injection Z
   refine yo rfl (yn (st0:=⟨[(6,.ifb (β 0) (.ptr 2000000 0 0 0)),(7,.ptr 2000000 0 0 0),(8,.ptr 2000000 0 0 0),(9,.ptr 2000000 0 0 0),(10,.ptr 2000000 0 0 1),(12,sgA s),(13,sgsA [s]),(15,.ifb (β 9) (.ptr 2000000 0 0 0)),(16,.ifb (β 10) (.ptr 2000000 0 0 0)),(17,.ifb (β 11) (.ptr 2000000 0 0 1)),(0,.ptr 2000000 0 0 0),(2,.bool b),(4,.ptr 4 0 0 0),(11,.own 2000010)],[(1000001,.hold vs [.ptr 2000000 0 0 0]),(2000000,.box [.str ⟨#[]⟩,.own 2000010,iv m.Max,iv m.Mod,iv m.Tem,iv m.Pro,iv p,.bool o1,.bool d1] 171),(2000010,.row sgE (l) 90 17),(4,.box (sgE s) 90)]⟩) (yl) ?_);refine yC.imp (y6 (l:=l) (l2:=[s]) rfl rfl rfl sl33 ti90 (by decide) (by decide) (λ_=>rfl) (λ_=>rfl) (by simp;omega) rfl) (yl)
  ·obtain rfl:(12,[9,10,7,6,5,4,3,2,1,0,8,11])=c:=by injection Z
   refine yo rfl (yn (st0:=⟨[(6,.ptr 2000000 0 0 0),(7,.ptr 2000000 0 0 0),(8,.ptr 2000000 0 0 0),(9,.ptr 2000000 0 0 0),(10,.ptr 2000000 0 0 1),(12,sgA s),(13,sgsA [s]),(15,.ptr 2000000 0 0 0),(16,.ptr 2000000 0 0 0),(17,.ptr 2000000 0 0 1),(0,.ptr 2000000 0 0 0),(2,.bool b),(4,.ptr 4 0 0 0),(14,.own 2000010)],[(1000001,.hold vs [.ptr 2000000 0 0 0]),(2000000,.box [.str ⟨#[]⟩,.any,iv m.Max,iv m.Mod,iv m.Tem,iv m.Pro,iv p,.bool o1,.bool d1] 171),(2000010,.row sgE (l++[s]) 90 17),(4,.box (sgE s) 90)]⟩) (yl) ?_);refine yC.imp (z6 rfl rfl rfl rfl ty33 (ltB rfl)) (yl)
  ·exact absurd Z (by simp)
 apply yj;iterate 2 refine ya ?_
 refine ya ?_ (hs:=by exact yg rfl);refine ya ?_;refine kK ?_;apply kQ;refine zc8 (bD 2000010 2000011 rfl rfl) ?_;refine zkj.mk [] [] (.inl rfl) (.many (by decide) .nil);all_goals rfl
def zdU(m:Mn)(l:List Sg)(p n:Int)(o1 d1:Bool)(N:-4<=p/\p<=12)(J:0<=n/\n<=1000000000):FnO prog 182 [.ptr 2000000 0 0 0,iv n] [(2000000,.box [.str ⟨#[]⟩,.own 2000010,iv m.Max,iv m.Mod,iv m.Tem,iv m.Pro,iv p,.bool o1,.bool d1] 171),(2000010,.row sgE (l) 90 17)] [2000000,2000010] (iv (stp p n)) [(2000000,.box [.str ⟨#[]⟩,.own 2000010,iv m.Max,iv m.Mod,iv m.Tem,iv m.Pro,iv (stp p n),.bool o1,.bool d1] 171),(2000010,.row sgE (l) 90 17)]:=by
 refine kX (ts:=[(0,.ptr 2000000 0 0 0),(1,iv n)]) (rv:=[.tmp 4]) (n:=35) (cs:=[.ptr 2000000 0 0 0,.own 2000010]) (by kernel_rfl) func182 rfl ntmps182 rfl rfl (by simp) rfl rfl rfl rfl (λg w d vs=>?_);refine gq ?_;refine kW [⟨0,5,.ptr 2000000 0 0 0,[]⟩,⟨1,6,.ptr 2000000 0 0 0,[]⟩,⟨2,7,.ptr 2000000 0 0 0,[1]⟩,⟨3,8,.ptr 2000000 0 0 6,[1,2]⟩,⟨4,9,iv p,[1,2,3]⟩,⟨5,10,iv n,[]⟩,⟨6,11,iv (n%5),[5]⟩,⟨7,12,iv (p+n%5),[1,2,5,3,6,4]⟩,⟨8,13,iv (p+n%5-2),[1,2,5,3,6,4,7]⟩,⟨9,14,.ptr 2000000 0 0 0,[8,7,6,5,4,3,2,1,0]⟩,⟨10,15,.ptr 2000000 0 0 6,[8,7,6,5,4,3,2,1,0,9]⟩] [(11,[9,7,5,4,3,2,1,0,6,8,10])] (λj=>match j with|0=>⟨[(0,.ptr 2000000 0 0 0),(1,iv n)],[(1000001,.hold vs [.ptr 2000000 0 0 0,.own 2000010]),(2000000,.box [.str ⟨#[]⟩,.own 2000010,iv m.Max,iv m.Mod,iv m.Tem,iv m.Pro,iv p,.bool o1,.bool d1] 171),(2000010,.row sgE (l) 90 17)]⟩|_=>⟨[(0,.ptr 2000000 0 0 0),(1,iv n)],[(1000001,.hold vs [.ptr 2000000 0 0 0,.own 2000010]),(2000000,.box [.str ⟨#[]⟩,.own 2000010,iv m.Max,iv m.Mod,iv m.Tem,iv m.Pro,iv (p+n%5-2),.bool o1,.bool d1] 171),(2000010,.row sgE (l) 90 17)]⟩) mo (by kernel_rfl) (zg (yd)) (λj T=>?_) (λj c U β hβ=>?_) ?_
 ·rcases j with _|_|j
  ·(iterate 2 refine⟨.inr ⟨_,rfl,rfl,rfl,rfl,k8 yJ⟩,?_⟩);refine⟨.inr ⟨_,rfl,rfl,rfl,rfl,k8 (yg rfl)⟩,?_⟩;refine⟨.inr ⟨_,rfl,rfl,rfl,rfl,k8 (za rfl rfl)⟩,?_⟩;(iterate 2 refine⟨.inr ⟨_,rfl,rfl,rfl,rfl,k8 yJ⟩,?_⟩);refine⟨.inr ⟨_,rfl,rfl,rfl,rfl,zT rfl rfl rfl (kS _) (zcd n 5 (by omega) (by omega))⟩,?_⟩;exact yw
  ·exact yw
  ·exact absurd (show j+2<=1 from T) (by omega)
 ·rcases j with _|j
  ·obtain rfl:(11,[9,7,5,4,3,2,1,0,6,8,10])=c:=by injection U
   refine yo rfl (yn (st0:=⟨[(5,.ptr 2000000 0 0 0),(6,.ptr 2000000 0 0 0),(7,.ptr 2000000 0 0 0),(8,.ptr 2000000 0 0 6),(9,iv p),(10,iv n),(11,iv (n%5)),(12,iv (p+n%5)),(13,iv (p+n%5-2)),(14,.ptr 2000000 0 0 0),(15,.ptr 2000000 0 0 6),(0,.ptr 2000000 0 0 0),(1,iv n)],[(1000001,.hold vs [.ptr 2000000 0 0 0,.own 2000010]),(2000000,.box [.str ⟨#[]⟩,.own 2000010,iv m.Max,iv m.Mod,iv m.Tem,iv m.Pro,iv p,.bool o1,.bool d1] 171),(2000010,.row sgE (l) 90 17)]⟩) (yl) ?_);refine yC.imp (z6 rfl rfl rfl rfl ty3 (ltB rfl)) (yl)
  ·exact absurd U (by simp)
 apply yf;apply ye;refine ya ?_;refine ya ?_ (hs:=by exact yg rfl);iterate 3 refine ya ?_
 refine kI 5 ?_;refine yp ?_;refine kG ?_;refine kG ?_ (hs:=by intro Q;exact yg rfl);iterate 3 refine kG ?_
 refine gf ?_ ?_<;>intro V
 ·have Z:4=stp p n:=zrT V;apply yj;refine ya ?_;refine ya ?_ (hs:=by exact yg rfl);refine ya ?_;refine kK ?_;apply kQ;apply yf;refine kJ (st':=⟨[(0,.ptr 2000000 0 0 0),(1,iv n)],[(1000001,.hold vs [.ptr 2000000 0 0 0,.own 2000010]),(2000000,.box [.str ⟨#[]⟩,.own 2000010,iv m.Max,iv m.Mod,iv m.Tem,iv m.Pro,iv (stp p n),.bool o1,.bool d1] 171),(2000010,.row sgE (l) 90 17)]⟩) (kY (by repeat'(first|exact True.intro|(refine And.intro ⟨_,rfl,?_⟩ ?_;exact kH _))) (by repeat'(first|exact True.intro|(refine And.intro ⟨_,rfl,?_⟩ ?_;(first|exact kR _|(refine kV ?_;rw[←Z]<;>rfl)))))) ?_;apply yj;refine ya ?_;refine ya ?_ (hs:=by exact yg rfl);refine yE ?_;refine kE ?_;refine zkj.mk [(4,iv (stp p n))] [] (.inr rfl) (.one (.tmp rfl (kC ?_)));all_goals rfl
 ·have Z:p+n%5-2=stp p n:=zvz (by omega);apply yk;apply yf;refine kJ (st':=⟨[(0,.ptr 2000000 0 0 0),(1,iv n)],[(1000001,.hold vs [.ptr 2000000 0 0 0,.own 2000010]),(2000000,.box [.str ⟨#[]⟩,.own 2000010,iv m.Max,iv m.Mod,iv m.Tem,iv m.Pro,iv (stp p n),.bool o1,.bool d1] 171),(2000010,.row sgE (l) 90 17)]⟩) (kY (by repeat'(first|exact True.intro|(refine And.intro ⟨_,rfl,?_⟩ ?_;exact kH _))) (by repeat'(first|exact True.intro|(refine And.intro ⟨_,rfl,?_⟩ ?_;(first|exact kR _|(refine kV ?_;rw[←Z]<;>rfl)))))) ?_;apply yj;refine ya ?_;refine ya ?_ (hs:=by exact yg rfl);refine yE ?_;refine kE ?_;refine zkj.mk [(4,iv (stp p n))] [] (.inr rfl) (.one (.tmp rfl (kC ?_)));all_goals rfl
def zdV(m:Mn)(l:List Sg)(p v n:Int)(o1 d1:Bool)(V:-4<=p/\p<=12)(U:0<=n/\n<=1000000000)(hl:l.length<=2000):FnO prog 135 [.ptr 2000000 0 0 0,iv v,iv n] [(2000000,.box [.str ⟨#[]⟩,.own 2000010,iv m.Max,iv m.Mod,iv m.Tem,iv m.Pro,iv p,.bool o1,.bool d1] 171),(2000010,.row sgE (l) 90 17)] [2000000] (.tup []) [(2000000,.box [.str ⟨#[]⟩,.own 2000011,iv m.Max,iv m.Mod,iv m.Tem,iv m.Pro,iv (stp p n),.bool o1,.bool true] 171),(2000011,.row sgE (l++[ntS v (stp p n) n]) 90 17)]:=by
 have Q:=zrU n;refine kX (ts:=[(0,.ptr 2000000 0 0 0),(1,iv v),(2,iv n)]) (rv:=[]) (n:=23) (cs:=[.ptr 2000000 0 0 0]) (by kernel_rfl) func135 rfl ntmps135 rfl rfl (by simp) rfl rfl rfl rfl (λg w d vs=>?_);refine kW [⟨0,6,.ptr 2000000 0 0 0,[]⟩,⟨1,7,iv v,[]⟩,⟨2,8,.ptr 2000000 0 0 0,[]⟩,⟨3,9,iv n,[]⟩,⟨5,11,yc [0,0,0,0,-1,1,2],[]⟩,⟨6,12,iv n,[]⟩,⟨7,13,iv (n/5),[6]⟩,⟨8,14,iv (n/5%7),[6,7]⟩,⟨9,15,.ept intE (roA n) 0,[6,7,8,5]⟩,⟨10,16,iv (roA n),[6,7,8,5,9]⟩,⟨11,17,iv n,[]⟩,⟨12,18,iv (n/35),[11]⟩,⟨13,19,iv (n/35%6),[11,12]⟩,⟨14,20,.bool (decide (n/35%6=0)),[11,12,13]⟩,⟨15,21,sgA (ntS v (stp p n) n),[6,11,7,12,8,5,13,9,3,2,14,10,4,1]⟩] [(4,[3,2]),(16,[6,11,7,12,8,5,13,9,3,2,14,10,1,4,15,0])] (λj=>match j with|0=>⟨[(0,.ptr 2000000 0 0 0),(1,iv v),(2,iv n)],[(1000001,.hold vs [.ptr 2000000 0 0 0]),(2000000,.box [.str ⟨#[]⟩,.own 2000010,iv m.Max,iv m.Mod,iv m.Tem,iv m.Pro,iv p,.bool o1,.bool d1] 171),(2000010,.row sgE (l) 90 17)]⟩|1=>⟨[(0,.ptr 2000000 0 0 0),(1,iv v),(2,iv n),(10,iv (stp p n))],[(1000001,.hold vs [.ptr 2000000 0 0 0]),(2000000,.box [.str ⟨#[]⟩,.own 2000010,iv m.Max,iv m.Mod,iv m.Tem,iv m.Pro,iv (stp p n),.bool o1,.bool d1] 171),(2000010,.row sgE (l) 90 17)]⟩|_=>⟨[(0,.ptr 2000000 0 0 0),(1,iv v),(2,iv n)],[(1000001,.hold vs [.ptr 2000000 0 0 0]),(2000000,.box [.str ⟨#[]⟩,.own 2000011,iv m.Max,iv m.Mod,iv m.Tem,iv m.Pro,iv (stp p n),.bool o1,.bool true] 171),(2000011,.row sgE (l++[ntS v (stp p n) n]) 90 17)]⟩) mo (by kernel_rfl) (zg (yd)) (λj T=>?_) (λj c Z β hβ=>?_) ?_
 ·rcases j with _|_|_|j
  ·(iterate 4 refine⟨.inr ⟨_,rfl,rfl,rfl,rfl,k8 yJ⟩,?_⟩);refine⟨.inr ⟨_,rfl,rfl,rfl,rfl,yu (enc:=intE) (l:=[0,0,0,0,-1,1,2]) sl46 ty3 ze3 (by decide) rfl rfl rfl rfl (by decide) (by decide) (λ_=>rfl) rfl⟩,?_⟩;exact yw
  ·(iterate 2 refine⟨.inr ⟨_,rfl,rfl,rfl,rfl,k8 yJ⟩,?_⟩);(iterate 2 refine⟨.inl rfl,?_⟩);refine⟨.inr ⟨_,rfl,rfl,rfl,rfl,yu (enc:=intE) (l:=[0,0,0,0,-1,1,2]) sl46 ty3 ze3 (by decide) rfl rfl rfl rfl (by decide) (by decide) (λ_=>rfl) rfl⟩,?_⟩;exact yw
  ·exact yw
  ·exact absurd (show j+3<=2 from T) (by omega)
 ·rcases j with _|_|j
  ·obtain rfl:(4,[3,2])=c:=by injection Z
   refine yo rfl (yn (st0:=⟨[(6,.ifb (β 0) (.ptr 2000000 0 0 0)),(7,.ifb (β 1) (iv v)),(8,.ptr 2000000 0 0 0),(9,iv n),(11,.ifb (β 5) (yc [0,0,0,0,-1,1,2])),(12,.ifb (β 6) (iv n)),(13,.ifb (β 7) (iv (n/5))),(14,.ifb (β 8) (iv (n/5%7))),(15,.ifb (β 9) (.ept intE (roA n) 0)),(16,.ifb (β 10) (iv (roA n))),(17,.ifb (β 11) (iv n)),(18,.ifb (β 12) (iv (n/35))),(19,.ifb (β 13) (iv (n/35%6))),(20,.ifb (β 14) (.bool (decide (n/35%6=0)))),(21,.ifb (β 15) (sgA (ntS v (stp p n) n))),(0,.ptr 2000000 0 0 0),(1,iv v),(2,iv n)],[(1000001,.hold vs [.ptr 2000000 0 0 0]),(2000000,.box [.str ⟨#[]⟩,.own 2000010,iv m.Max,iv m.Mod,iv m.Tem,iv m.Pro,iv p,.bool o1,.bool d1] 171),(2000010,.row sgE (l) 90 17)]⟩) (yl) ?_);refine yC.imp (zrw [(2000000,2000000),(2000010,2000010)] (zdU m l p n o1 d1 V U)) (yl)
  ·obtain rfl:(16,[6,11,7,12,8,5,13,9,3,2,14,10,1,4,15,0])=c:=by injection Z
   refine yo rfl (yn (st0:=⟨[(6,.ptr 2000000 0 0 0),(7,iv v),(8,.ptr 2000000 0 0 0),(9,iv n),(11,yc [0,0,0,0,-1,1,2]),(12,iv n),(13,iv (n/5)),(14,iv (n/5%7)),(15,.ept intE (roA n) 0),(16,iv (roA n)),(17,iv n),(18,iv (n/35)),(19,iv (n/35%6)),(20,.bool (decide (n/35%6=0))),(21,sgA (ntS v (stp p n) n)),(0,.ptr 2000000 0 0 0),(1,iv v),(2,iv n),(10,iv (stp p n))],[(1000001,.hold vs [.ptr 2000000 0 0 0]),(2000000,.box [.str ⟨#[]⟩,.own 2000010,iv m.Max,iv m.Mod,iv m.Tem,iv m.Pro,iv (stp p n),.bool o1,.bool d1] 171),(2000010,.row sgE (l) 90 17)]⟩) (yl) ?_);refine yC.imp (zrw [(2000000,2000000),(2000010,2000010),(2000011,2000011)] (zaA m l (stp p n) o1 d1 (ntS v (stp p n) n) true hl)) (yl)
  ·exact absurd Z (by simp)
 refine zkj.mk [] [] (.inl rfl) (.many (by decide) .nil);all_goals rfl
end
end Go.Rse
