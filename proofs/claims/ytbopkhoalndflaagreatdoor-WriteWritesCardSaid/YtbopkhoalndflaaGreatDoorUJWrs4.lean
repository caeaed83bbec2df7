/-
  Walks.
-/
import Derived.Test.YtbopkhoalndflaaGreatDoorUJRse44
set_option linter.all false
namespace Go.Rse
open Go Go.Proofs Go.Proofs.Tryz
section
def fmL(m:Mn)(l:List Bt)(h:Hb):List (List (List Sg)):=l.map λb=>fmV m b h
def zz3{m:Mn}{l:List Bt}{h:Hb}{k:Nat}{b:Bt}(hi:l[k]? =some b):fmL m (l.take k) h++[fmV m b h]=fmL m (l.take (k+1)) h:=by
 unfold fmL;rw[jA,hi];simp
def zix(m:Mn)(l:List Bt)(h:Hb):(fmL m l h).length=l.length:=by unfold fmL;simp
def zxj(m:Mn)(b:Bt)(h:Hb):(fmV m b h).length<=32/\∀s∈fmV m b h,s.length<=2:=by
 unfold fmV;split
 ·exact⟨zfs m b h,λs hs=>(zmf hs).2⟩
 ·exact⟨by simp,λs hs=>by simp at hs⟩
def znG(m:Mn)(l:List Bt)(h:Hb):∀f∈fmL m l h,f.length<=1000000/\∀s∈f,s.length<=2:=λf hf=>by
 unfold fmL at hf;obtain⟨b,_,rfl⟩:=jX.1 hf;have:=zxj m b h;exact⟨by omega,this.2⟩
def zoX(F:List (List (List Sg))):∀(r x:List Sg),(∀f∈F,∀s∈f,s.length<=2)->x∈wuL F r->x.length<=r.length+2*F.length:=by
 induction F with
 |nil=>intro r x _ hx;unfold wuL at hx;rw[vO.1 hx];simp
 |cons f F ih=>
  intro r x h hx;unfold wuL at hx;obtain⟨s,hs,hx⟩:=xN.1 hx;have V:=ih (r++s) x (λf' Z=>h f' (wQ _ Z)) hx;have U:=h f xF s hs;rw[jI]at V;rw[jY];omega
def zz4{b:Bool}(h:(b==true)=false):b=false:=by cases b<;>simp_all
def wyL(m:Mn)(l:List Bt)(h:Hb):List (List Sg):=(wuL (fmL m l h) []).filter λx=>reQ m x (durB l)
def wyX(m:Mn)(l:List Bt)(h:Hb):List (List AV):=(wyL m l h).map λx=>[sgsA x]
def wyK(m:Mn)(l:List Bt)(h:Hb)(j:Nat):Nat:=(((wuL (fmL m l h) []).take j).filter λx=>reQ m x (durB l)).length
theorem zfu{m:Mn}{l:List Bt}{h:Hb}{j:Nat}{zs:List AV}(e:(wyX m l h)[j]? =some zs):∃x,(wyL m l h)[j]? =some x/\zs=[sgsA x]:=by
 rw[wyX,jJ]at e;cases Z:(wyL m l h)[j]? with
 |none=>simp[Z]at e
 |some k=>simp[Z]at e;exact⟨k,rfl,e.symm⟩
def zz5(m:Mn)(l:List Bt)(h:Hb):0=wyK m l h 0:=by unfold wyK;simp
def zxk{m:Mn}{l:List Bt}{h:Hb}{j:Nat}{x:List Sg}(hx:(wuL (fmL m l h) [])[j]? =some x)(Z:reQ m x (durB l)=true):(wyX m l h)[wyK m l h j]? =some [sgsA x]/\wyK m l h (j+1)=wyK m l h j+1:=by
 constructor
 ·unfold wyX wyL wyK;have V:=j1.1 hx;have e:wuL (fmL m l h) []=(wuL (fmL m l h) []).take j++x::(wuL (fmL m l h) []).drop (j+1):=by rw[←V.2,←jG V.1,w5]
  have e2:(wuL (fmL m l h) []).filter (λx=>reQ m x (durB l))=((wuL (fmL m l h) []).take j).filter (λx=>reQ m x (durB l))++x::((wuL (fmL m l h) []).drop (j+1)).filter λx=>reQ m x (durB l):=by
   conv=>lhs;rw[e]
   simp only[wR,u0,Z,if_true]
  rw[e2,jJ,wK (by omega)];simp
 ·unfold wyK;rw[jA,hx];simp[Z]
def zz6{m:Mn}{l:List Bt}{h:Hb}{j:Nat}{x:List Sg}(hx:(wuL (fmL m l h) [])[j]? =some x)(Z:¬reQ m x (durB l)=true):wyK m l h (j+1)=wyK m l h j:=by
 unfold wyK;rw[jA,hx];simp[Z]
def zxl(m:Mn)(l:List Bt)(h:Hb):wyK m l h (wuX (fmL m l h) []).length=(wyX m l h).length:=by
 unfold wyK wuX wyX wyL;rw[jO,jO,j9]
attribute [local irreducible] Pur yA yC Ex X Fn Imp LeV LeB FnO It yH FnW FnOW FnP FnD
attribute [local irreducible] wuX wuL wyX wyL wyK fmL fmV durB wcE wcnE wcnV rdE rdV
def zbS(l:List Sg)(hl:l.length<=1000000):Fn prog 94 [sgsA l] (sgsA l):=by
 refine kC func94 ntmps94 (λg w d=>?_);apply ye;refine yi ?_;apply yf;apply ye;refine ya ?_;refine zq5 (λbn U=>?_) Tryz.underlying33;refine gd ?_ ?_<;>intro Z
 ·have V:l=[]:=by
   cases l with
   |nil=>rfl
   |cons x r=>rw[U (by simp)]at Z;cases Z
  apply ye;refine yi ?_;refine kE ?_;refine k8 (yd (ts:=[(2,sgsA [])]) (hs:=[])) ?_;refine gq ?_;all_goals(first|exact j6 (λz=>sgsA z) V.symm|rfl)
 refine gq ?_;refine yz sgE [] ?_;refine ya ?_;refine kI ?_;refine yi ?_;refine kE ?_;refine k8 (k9 (k:=5) rfl) ?_;refine gq ?_;all_goals(first|exact j6 (λz=>sgsA z) V.symm|rfl)
set_option maxHeartbeats 4000000 in
def zb9(m:Mn)(z:List Bt)(Z:Hb)(hl:z.length<=100):It prog 115 [.ept (λ_:Unit=>[btsA z]) () 0,.ept (λ_:Unit=>mnE m) () 0,.ept (λ_:Unit=>hbE Z) () 0] (wyX m z Z):=by
 have x3:[]=fmL m (z.take 0) Z:=by unfold fmL;rfl
 have x2:=zz5 m z Z;refine bF (ts:=λlY=>[(0,.yv lY),(1,.ept (λ_:Unit=>[btsA z]) () 0),(2,.ept (λ_:Unit=>mnE m) () 0),(3,.ept (λ_:Unit=>hbE Z) () 0)]) (n:=45) (by kernel_rfl) func115 rfl ntmps115 rfl (λ_=>rfl) (by simp) (λg w d ds Y lY hY=>?_);apply ye;refine zcK ?_;apply yG;refine yi ?_;iterate 2 apply yf
 refine kJ (yE zb7 56 1 5 30 rfl rfl) ?_;apply yj;refine yq ?_;apply kA;refine ze (λk=>[(1,.ept (λ_:Unit=>[btsA z]) () 0),(2,.ept (λ_:Unit=>mnE m) () 0),(3,.ept (λ_:Unit=>hbE Z) () 0),(4,.ptr 4 0 0 0),(5,.own 30),(12,btsA z),(13,iv (z.length:Int)),(14,iv (k:Int))]) (λk=>[(4,.box [.yv lY] 146),(1000000,.yld (wyK m z Z 0) true),(30,.row zb7 (fmL m (z.take k) Z) 56 1)]) z.length (λk hk=>?_);refine gd ?_ ?_<;>intro x1
 ·obtain⟨b,T⟩:∃b,z[k]? =some b:=⟨_,lgg (by omega)⟩;have x0:z[(k:Int).toNat]? =some b:=by simpa using T
  have w2:=zz3 (m:=m) (h:=Z) T;have v9:(fmL m (z.take k) Z).length<=1000:=by rw[zix,jL];omega
  refine gc (zfZ m b Z) ?_;refine yz zb7 [fmV m b Z] ?_;refine gq ?_;refine yo (k+1) (hI:=yg)
 ·obtain rfl:k=z.length:=by omega
  have hV:fmL m (z.take z.length) Z=fmL m z Z:=by rw[j9]
  have v8:=zix m z Z;refine gq ?_;refine yM (zid z (by omega)) ?_;refine zb ?_;refine kI ?_;apply yG;refine ya ?_;refine kR (k9 (k:=30) rfl) ?_;refine kS (zau rfl rfl rfl (.cons (kO _) (.cons (kB (j6 (λy=>chsA y) hV)) .nil)) (zep [] (fmL m z Z))) rfl rfl ?_;refine gq ?_;refine bE (sl:=[1,2,3,4,10]) (λj=>([.ept (λ_:Unit=>[btsA z]) () 0,.ept (λ_:Unit=>mnE m) () 0,.ept (λ_:Unit=>hbE Z) () 0,.ptr 4 0 0 0,.ptr 10 0 0 0],[(4,.box [.yv lY] 146),(10,.box [tmsA (durB z)] 50),(1000000,.yld (wyK m z Z j) true)])) (λj=>True) 900001 900002 rfl rfl (by decide) (λj zs Q=>by obtain⟨_,_,rfl⟩:=zfp Q;rfl) ((zgU (fmL m z Z) [] (by omega) (by simp;omega) (znG m z Z))) trivial rfl rfl (by decide) (jE _) (by simp) (λj zs Q=>by obtain⟨_,_,rfl⟩:=zfp Q;rfl) (λ_=>rfl) rfl rfl (λl o us=>yd) (trivial) (λj zs Q hJ l ready busy rb vs g w T v5=>?_) (λhJ=>?_)
  ·have J:=zfp Q;obtain⟨x,hx,rfl⟩:=J;have I:=zoX (fmL m z Z) [] x (λf hf=>(znG m z Z f hf).2) (j5 hx);rw[u4,zix]at I;apply yj;refine yi ?_;refine⟨rfl,rfl,?_⟩;refine gq ?_;refine yM (zef m x (durB z) (by omega)) ?_;refine ya ?_;refine zmN (t:=39) true rfl (λV=>?_) (λV=>?_)
   ·(iterate 2 refine z6 ?_);have U:reQ m x (durB z)=true:=by unfold reQ;simpa using V
    have H:=zxk hx U;obtain⟨E,xT⟩:=H;refine zcj hY rfl rfl rfl (λ_=>⟨_,_,rfl,rfl,rfl,kP _,rfl,rfl,E,λb=>?_⟩) (λh=>absurd (h.symm.trans V) (by decide));refine z6 ?_;first|refine ya (hs:=zel rfl (zz4 V) rfl) ?_|refine ya ?_
    refine gd ?_ ?_<;>intro N
    ·subst N;refine kE ?_;refine⟨[.ept (λ_:Unit=>[btsA z]) () 0,.ept (λ_:Unit=>mnE m) () 0,.ept (λ_:Unit=>hbE Z) () 0,.ptr 4 0 0 0,.ptr 10 0 0 0],[(4,.box [.yv lY] 146),(10,.box [tmsA (durB z)] 50),(1000000,.yld (wyK m z Z j) false)],yd,?_⟩;refine⟨.inr rfl,_,false,rfl,λT=>by simp at T⟩
    subst N;apply yl;refine⟨[.ept (λ_:Unit=>[btsA z]) () 0,.ept (λ_:Unit=>mnE m) () 0,.ept (λ_:Unit=>hbE Z) () 0,.ptr 4 0 0 0,.ptr 10 0 0 0],[(4,.box [.yv lY] 146),(10,.box [tmsA (durB z)] 50),(1000000,.yld (wyK m z Z (j+1)) true)],yd,rfl,trivial⟩
   ·refine zbC ?_;(iterate 3 refine zbC ?_);first|refine ya (hs:=zel rfl (zz4 V) rfl) ?_|refine ya ?_
    refine gd ?_ ?_<;>intro x4
    ·exact absurd x4 (by decide)
    have U:¬reQ m x (durB z)=true:=by unfold reQ;simpa using V
    have xT:=zz6 hx U;apply yl;refine⟨[.ept (λ_:Unit=>[btsA z]) () 0,.ept (λ_:Unit=>mnE m) () 0,.ept (λ_:Unit=>hbE Z) () 0,.ptr 4 0 0 0,.ptr 10 0 0 0],[(4,.box [.yv lY] 146),(10,.box [tmsA (durB z)] 50),(1000000,.yld (wyK m z Z (j+1)) true)],yd,rfl,trivial⟩
  refine⟨.inl rfl,_,true,rfl,λ_=>zxl m z Z⟩
end
section
def wlV(m:Mn)(l:List Bt)(h:Hb):List (List Sg):=if wcnE m l h=0 then wyL m l h else[]
def zha{m:Mn}{l:List Bt}{h:Hb}(e:wcnE m l h=0):l.length<=12:=by
 apply jZ;intro Z;by_cases c:wcE m l=0
 ·have:=(zoT (h:=h) c (by omega)).1;omega
 ·have:=(zjs (h:=h) c).1;omega
def zoY{m:Mn}{l:List Bt}{h:Hb}{x:List Sg}(hx:x∈wyL m l h):x.length<=2*l.length:=by
 unfold wyL at hx;have:=zoX (fmL m l h) [] x (λf hf=>(znG m l h f hf).2) (wL.1 hx).1;rw[zix]at this;simpa using this
def zxm(m:Mn)(h:Hb):∀(l:List Bt)(r:List Sg),(wuL (fmL m l h) r).length<=cnP m h l:=by
 intro l
 induction l with
 |nil=>intro r;unfold fmL wuL cnP;simp
 |cons b l ih=>
  intro r;have e:fmL m (b::l) h=fmV m b h::fmL m l h:=by unfold fmL;rfl
  rw[e];unfold wuL;rw[List.length_flatMap]
  have Z:∀L:List (List Sg),(L.map λx=>(wuL (fmL m l h) (r++x)).length).sum<=L.length*cnP m h l:=by
   intro L
   induction L with
   |nil=>simp
   |cons y L ih2=>
    rw[u5,List.sum_cons,jY,uZ];have:=ih (r++y);omega
  refine jR (Z _) ?_
  have V:(fmV m b h).length<=(frV m b h).length:=by
   unfold fmV;split
   ·exact jE _
   ·simp
  exact jR (jU _ V) (jE _)
def zrx{m:Mn}{l:List Bt}{h:Hb}(e:wcnE m l h=0):(wyL m l h).length<=4096:=by
 have Z:=zxm m h l [];have V:(wyL m l h).length<=(wuL (fmL m l h) []).length:=by unfold wyL;exact wF _ _
 have U:cnP m h l<=4096:=by
  apply jZ;intro T;by_cases c:wcE m l=0
  ·by_cases c2:12<l.length
   ·have:=(zoT (h:=h) c c2).1;omega
   ·have:=(zmH (h:=h) c c2 (by omega)).1;omega
  ·have:=(zjs (h:=h) c).1;omega
 omega
def znH{l:List (List Sg)}{j:Nat}{x:List Sg}(h:l[j]? =some x):l.take j++[x]=l.take (j+1):=by
 rw[jA,h];rfl
def zxn(m:Mn)(l:List Bt)(h:Hb):(wyL m l h).take (wyX m l h).length=wyL m l h:=by
 unfold wyX;rw[jO,j9]
attribute [local irreducible] Pur yA yC Ex X Fn Imp LeV LeB FnO It yH FnW FnOW FnP FnD
attribute [local irreducible] wuX wuL wyX wyL wyK fmL fmV durB wcE wcnE wcnV rdE rdV
def zcI(m:Mn)(z:List Bt)(q:Hb):Fn prog 65 [mnA m,btsA z,hbA q] (.fn 115 [.ept (λ_:Unit=>[btsA z]) () 0,.ept (λ_:Unit=>mnE m) () 0,.ept (λ_:Unit=>hbE q) () 0]):=by
 refine kC func65 ntmps65 (λg w d=>?_);refine gq ?_;refine zcK ?_;refine zZ ?_;refine ya ?_;apply yG;refine yL ?_;refine kE ?_;refine k8 (((yR (k:=3) rfl rfl).trans (yR (k:=4) rfl rfl)).trans (yR (k:=5) rfl rfl)) ?_;refine gq ?_;all_goals exact zR
set_option maxHeartbeats 2000000 in
def zbT(m:Mn)(z:List Bt)(q:Hb)(hl:z.length<=4000000000):Fn prog 33 [mnA m,btsA z,hbA q] (.tup [zp (wlV m z q),iv (wcnE m z q)]):=by
 refine kC func33 ntmps33 (λg w d=>?_);refine gc (zdL m z q hl) ?_;refine gd ?_ ?_<;>intro T
 ·have Z:wlV m z q=[]:=by unfold wlV;rw[j3 T]
  apply ye;refine yq ?_;refine kE ?_;refine k8 (yd (ts:=[(6,zp []),(7,iv (wcnE m z q))]) (hs:=[])) ?_;refine yh ?_ ?_;all_goals(first|exact zE Z|exact j6 (λy=>zp y) (V.trans Z.symm)|exact j6 (AV.int .i64) h0.symm|rfl)
 have h0:wcnE m z q=0:=by omega
 have Z:wlV m z q=wyL m z q:=by unfold wlV;rw[j4 h0]
 have N:=zha h0;have J:=zrx h0;have V:=zxn m z q;apply yl;apply ye;refine zb ?_;apply kL;iterate 2 apply yf
 refine kJ (zbp sgsE 33 1 10 39 56 rfl rfl) ?_;refine gq ?_;refine yM (zcI m z q) ?_;apply kL;apply kA;have I:[]=(wyL m z q).take 0:=by simp
 refine bE (sl:=[10]) (λj=>([.ptr 10 0 0 0],[(10,.box [.own 39] 56),(39,.row sgsE ((wyL m z q).take j) 33 1)])) (λj=>True) 900001 900002 rfl rfl (by decide) (λj zs U=>by obtain⟨i,_,rfl⟩:=zfu U;rfl) ((zb9 m z q (by omega))) trivial rfl rfl (by decide) (wH _) (by simp) (λj zs U=>by obtain⟨i,_,rfl⟩:=zfu U;rfl) (λ_=>rfl) rfl rfl (λl o us=>yd) (trivial) (λj zs U hJ l ready busy rb vs g w hb H=>?_) (λhJ=>?_)
 ·have Q:=zfu U;obtain⟨x,hi,rfl⟩:=Q;have E:=znH hi;have xT:=zoY (j5 hi);have x4:((wyL m z q).take j).length<=4096:=by rw[jL];omega
  apply yj;refine yi ?_;refine⟨rfl,rfl,?_⟩;apply kA;refine yQ [27,28,29,30] [0,0,2,6,15,31] mo ?_;iterate 2 refine yb ?_
  refine yI (zbS x (by omega)) ?_;refine ChM.step rfl rfl rfl (zr5 (enc:=sgsE) (l:=[x]) sl56 ty33 ze33) rfl ?_;refine yx ?_;iterate 2 refine kI ?_
  apply kL;refine⟨[.ptr 10 0 0 0],[(10,.box [.own 39] 56),(39,.row sgsE ((wyL m z q).take (j+1)) 33 1)],yd,rfl,trivial⟩
 apply ye;refine yq ?_;refine kE ?_;refine k8 (k9 (k:=39) rfl) ?_;refine yh ?_ ?_;all_goals(first|exact zE Z|exact j6 (λy=>zp y) (V.trans Z.symm)|exact j6 (AV.int .i64) h0.symm|rfl)
def zhF(m:Mn)(z:List Bt)(q:Hb)(hl:z.length<=4000000000):Fn prog 35 [mnA m,btsA z,hbA q] (.tup [iv ((wlV m z q).length:Int),iv (wcnE m z q)]):=by
 refine kC func35 ntmps35 (λg w d=>?_);refine gc (zbT m z q hl) ?_;refine yh ?_ ?_;all_goals exact zR
end
section
def wgC(x y:Wg):Int:=orV [cmpI x.n y.n,cmpI x.c y.c]
def mwF:List Wg->Wg->Wg
 |[],a=>a
 |x::r,a=>mwF r (if wgC x a<0 then x else a)
def zmJ(x:Wg):∀(l:List Wg)(a:Wg),mwF (l++[x]) a=if wgC x (mwF l a)<0 then x else mwF l a
 |[],a=>rfl
 |y::r,a=>by show mwF (r++[x]) _=_;rw[zmJ x r];rfl
def mwK(l:List Wg)(k:Nat):Wg:=mwF ((l.take k).drop 1) (l.getD 0 default)
def mwV(l:List Wg):Wg:=mwK l l.length
def zry(l:List Wg):mwK l 1=l.getD 0 default:=by
 unfold mwK;cases l<;>simp[mwF]
def zrz{l:List Wg}{k:Nat}{x:Wg}(Z:1<=k)(h:l[k]? =some x):mwK l (k+1)=if wgC x (mwK l k)<0 then x else mwK l k:=by
 unfold mwK;rw[jA,h]
 have:((l.take k)++(some x).toList).drop 1=(l.take k).drop 1++[x]:=by
  rw[uS (by have:=(j1.1 h).1;rw[jL];omega)];rfl
 rw[this,zmJ]
def beE(m:Mn)(l:List Bt)(h:Hb):Int:=if wcnE m l h=0 then(if(wlV m l h).length=0 then 18 else 0)else wcnE m l h
def beV(m:Mn)(l:List Bt)(h:Hb):List Sg:=if beE m l h=0 then(mwV ((wlV m l h).map wgV)).r else[]
def zz7{m:Mn}{l:List Bt}{h:Hb}(c:¬wcnE m l h=0):beE m l h=wcnE m l h/\beV m l h=[]:=by
 have e:beE m l h=wcnE m l h:=by unfold beE;rw[j3 c]
 exact⟨e,by unfold beV;rw[e,j3 c]⟩
def zz8{m:Mn}{l:List Bt}{h:Hb}(c:wcnE m l h=0)(c2:(wlV m l h).length=0):beE m l h=18/\beV m l h=[]:=by
 have e:beE m l h=18:=by unfold beE;rw[j4 c,j4 c2]
 exact⟨e,by unfold beV;rw[e];rfl⟩
def zz9{m:Mn}{l:List Bt}{h:Hb}(c:wcnE m l h=0)(c2:¬(wlV m l h).length=0):beE m l h=0/\beV m l h=(mwV ((wlV m l h).map wgV)).r:=by
 have e:beE m l h=0:=by unfold beE;rw[j4 c,j3 c2]
 exact⟨e,by unfold beV;rw[j4 e]⟩
def zjt{m:Mn}{l:List Bt}{h:Hb}(c:wcnE m l h=0):(wlV m l h).length<=4096/\∀x∈wlV m l h,x.length<=24:=by
 have Z:=zrx c;have V:=zha c;unfold wlV;rw[j4 c];exact⟨Z,λx hx=>by have:=zoY hx;omega⟩
def zAa{L:List (List Sg)}{k:Nat}{x:List Sg}(h:L[k]? =some x):(L.take k).map wgV++[wgV x]=(L.take (k+1)).map wgV:=by
 rw[jA,h];simp
def unE2(m:Mn)(r:List Sg)(n:Mn)(h:Hb):Int:=if rdE m r=0 then beE n (bsV m r) h else rdE m r
def unV2(m:Mn)(r:List Sg)(n:Mn)(h:Hb):List Sg:=if rdE m r=0 then beV n (bsV m r) h else[]
def zfv(m:Mn)(l:List Sg):(bsV m l).length<=l.length:=by
 unfold bsV;split
 ·unfold zbV;rw[List.length_zipWith];have:=zg9 l;omega
 ·simp
def skE(m:Mn)(a:List Sg)(n:Mn)(b:List Sg):Int:=if ckD m a=0 then ckD n b else ckD m a
def skB(m:Mn)(a:List Sg)(n:Mn)(b:List Sg):Bool:=if skE m a n b=0 then decide (rdE m a=0)&&(decide (rdE n b=0)&&decide (bsV m a=bsV n b))else false
def zAb{m n:Mn}{a b:List Sg}(c:¬ckD m a=0):skE m a n b=ckD m a/\skB m a n b=false:=by
 have e:skE m a n b=ckD m a:=by unfold skE;rw[j3 c]
 exact⟨e,by unfold skB;rw[e,j3 c]⟩
def zAc{m n:Mn}{a b:List Sg}(c:ckD m a=0)(c2:¬ckD n b=0):skE m a n b=ckD n b/\skB m a n b=false:=by
 have e:skE m a n b=ckD n b:=by unfold skE;rw[j4 c]
 exact⟨e,by unfold skB;rw[e,j3 c2]⟩
def zAd{m n:Mn}{a b:List Sg}(c:ckD m a=0)(c2:ckD n b=0):skE m a n b=0/\skB m a n b=(decide (rdE m a=0)&&(decide (rdE n b=0)&&decide (bsV m a=bsV n b))):=by
 have e:skE m a n b=0:=by unfold skE;rw[j4 c,c2]
 exact⟨e,by unfold skB;rw[j4 e]⟩
attribute [local irreducible] Pur yA yC Ex X Fn Imp LeV LeB FnO It yH FnW FnOW FnP FnD
attribute [local irreducible] wcE wcnE wcnV rdE rdV wlV mwK bsV ckD wgV beE beV orV cmpI
def zhb(x y:Wg):Fn prog 97 [wgA x,wgA y] (iv (wgC x y)):=by
 refine kC func97 ntmps97 (λg w d=>?_);refine gq ?_;refine yQ [4,5,6,7,8,9,10,11,12,13,14,15,16] [0,1,0,4,15,0,32,0,128,511,1023,2047,4095] mo ?_;iterate 4 refine yb ?_
 refine yI (zae x.n y.n) ?_;iterate 4 refine yb ?_
 refine yI (zae x.c y.c) ?_;refine ChM.step rfl rfl rfl (zr5 (enc:=intE) (l:=[cmpI x.n y.n,cmpI x.c y.c]) sl46 ty3 ze3) rfl ?_;refine yI (zg7 [cmpI x.n y.n,cmpI x.c y.c] (by simp)) ?_;refine yb ?_;refine yx ?_;refine gq ?_;all_goals exact zR
set_option maxHeartbeats 2000000 in
def zX(l:List Wg)(h0:0<l.length)(hl:l.length<=1000000):Fn prog 96 [.sl wgE l,.fn 97 []] (wgA (mwV l)):=by
 obtain⟨x0,V⟩:∃x,l[0]? =some x:=⟨_,lgg h0⟩;have N:l[(0:Int).toNat]? =some x0:=V;have J:wgE x0=wgE (mwK l 1):=by rw[zry,j8,V];rfl
 refine kC func96 ntmps96 (λg w d=>?_);refine gd ?_ ?_<;>intro I
 ·omega
 refine gq ?_;refine zcw (ι:=Nat) (λ(k:Nat)=>[(0,.sl wgE l),(1,.fn 97 []),(4,.ptr 4 0 0 0),(5,.ptr 5 0 0 0),(6,iv (k:Int))]) (λ(k:Nat)=>[(4,.box [iv 0,iv 0,.nils] 125),(5,.box (wgE (mwK l k)) 125)]) (λ(k:Nat)=>1<=k/\k<=l.length) (λ(k:Nat)=>l.length-k) 1 (λk H=>?_) (hJ:=by exact⟨by omega,by omega⟩) (h0:=by exact yg);obtain⟨T,E⟩:=H;refine gd ?_ ?_<;>intro xT
 ·obtain⟨x,hx⟩:∃x,l[k]? =some x:=⟨_,lgg (by omega)⟩;have x4:l[(k:Int).toNat]? =some x:=by simpa using hx
  have Z:=zrz T hx;refine gq ?_;refine yQ [20,21,22,23,24,25,26,27] [0,0,0,6,14,0,63,127] mo ?_;iterate 6 refine yb ?_
  refine yI (zhb x (mwK l k)) ?_;refine yb ?_;refine yx ?_;refine gd ?_ ?_<;>intro Q
  ·rw[j4 Q]at Z;have U:wgE x=wgE (mwK l (k+1)):=by rw[Z]
   refine gq ?_;refine yo (k+1) (hJ:=by exact⟨by omega,by omega⟩) (hI:=yg)
  ·rw[j3 (by omega)]at Z;have U:wgE (mwK l k)=wgE (mwK l (k+1)):=by rw[Z]
   refine gq ?_;refine yo (k+1) (hJ:=by exact⟨by omega,by omega⟩) (hI:=yg)
 ·obtain rfl:k=l.length:=by omega
  refine gq ?_;refine kH (.one (.cellA rfl rfl rfl rfl zsc (kB ?_)));all_goals exact zR
set_option maxHeartbeats 2000000 in
def zer(m:Mn)(z:List Bt)(q:Hb)(hl:z.length<=4000000000):Fn prog 37 [mnA m,btsA z,hbA q] (.tup [sgsA (beV m z q),iv (beE m z q)]):=by
 refine kC func37 ntmps37 (λg w d=>?_);refine gc (zbT m z q hl) ?_;refine gd ?_ ?_<;>intro U
 ·have T:=zz7 U;obtain⟨hE,V⟩:=T;apply ye;refine yq ?_;refine kE ?_;refine k8 (yd (ts:=[(6,sgsA []),(7,iv (wcnE m z q))]) (hs:=[])) ?_;refine yh ?_ ?_;all_goals(first|exact zE hE|exact zE V)
 have h0:wcnE m z q=0:=by omega
 have Q:=zjt h0;obtain⟨E,N⟩:=Q;refine gd ?_ ?_<;>intro xT
 ·have J:=zz8 h0 (by omega);obtain⟨hE,V⟩:=J;apply ye;refine yL ?_;refine kE ?_;refine k8 (yd (ts:=[(6,sgsA []),(7,iv 18)]) (hs:=[])) ?_;refine yh ?_ ?_;all_goals(first|exact zE hE|exact zE V)
 have I:=zz9 h0 (by omega);obtain⟨hE,V⟩:=I;have x4:[]=((wlV m z q).take 0).map wgV:=rfl;apply yl;apply ye;refine yi ?_;iterate 2 apply yf
 refine kJ (yE wgE 125 3 10 30 rfl rfl) ?_;apply yj;refine yq ?_;apply kA;refine ze (λk=>[(10,.own 30),(27,zp (wlV m z q)),(28,iv ((wlV m z q).length:Int)),(29,iv (k:Int))]) (λk=>[(30,.row wgE (((wlV m z q).take k).map wgV) 125 3)]) ((wlV m z q).length) (λk hk=>?_);refine gd ?_ ?_<;>intro x3
 ·obtain⟨x,hx⟩:∃x,(wlV m z q)[k]? =some x:=⟨_,lgg (by omega)⟩;have x2:(wlV m z q)[(k:Int).toNat]? =some x:=by simpa using hx
  have x1:=zAa hx;have x0:=N x (j5 hx);have w2:(((wlV m z q).take k).map wgV).length<=4096:=by rw[jO,jL];omega
  refine gq ?_;refine yM (zhB x (by omega)) ?_;refine yz wgE [wgV x] ?_;refine gq ?_;refine yo (k+1) (hI:=yg)
 ·obtain rfl:k=(wlV m z q).length:=by omega
  have H:((wlV m z q).take (wlV m z q).length).map wgV=(wlV m z q).map wgV:=by rw[j9]
  have Z:=zX ((wlV m z q).map wgV) (by rw[jO];omega) (by rw[jO];omega);rw[←H]at Z V;apply kK;apply ye;refine ya ?_;refine kR (k9 (k:=30) rfl) ?_;refine gc Z ?_;refine yh ?_ ?_;all_goals(first|exact zE hE|exact zE V)
def zhG(m:Mn)(r:List Sg)(n:Mn)(q:Hb)(hl:r.length<=1000):Fn prog 45 [mnA m,sgsA r,mnA n,hbA q] (.tup [sgsA (unV2 m r n q),iv (unE2 m r n q)]):=by
 refine kC func45 ntmps45 (λg w d=>?_);refine gc (zaZ m r hl) ?_;refine gd ?_ ?_<;>intro Z
 ·have hE:unE2 m r n q=rdE m r:=by unfold unE2;rw[j3 Z]
  have V:unV2 m r n q=[]:=by unfold unV2;rw[j3 Z]
  apply ye;refine yq ?_;refine kE ?_;refine k8 (yd (ts:=[(8,sgsA []),(9,iv (rdE m r))]) (hs:=[])) ?_;refine yh ?_ ?_;all_goals(first|exact zE hE|exact zE V)
 have h0:rdE m r=0:=by omega
 have hE:unE2 m r n q=beE n (bsV m r) q:=by unfold unE2;rw[j4 h0]
 have V:unV2 m r n q=beV n (bsV m r) q:=by unfold unV2;rw[j4 h0]
 refine gc (zer n (bsV m r) q (by have:=zfv m r;omega)) ?_;refine yh ?_ ?_;all_goals(first|exact zE hE|exact zE V)
set_option maxHeartbeats 2000000 in
def zhH(m:Mn)(a:List Sg)(n:Mn)(b:List Sg)(I:a.length<=1000)(H:b.length<=1000):Fn prog 43 [mnA m,sgsA a,mnA n,sgsA b] (.tup [.bool (skB m a n b),iv (skE m a n b)]):=by
 refine kC func43 ntmps43 (λg w d=>?_);refine gc (zaO m a (by omega)) ?_;refine gd ?_ ?_<;>intro V
 ·have U:=zAb (n:=n) (b:=b) V;obtain⟨hE,Z⟩:=U;refine gq ?_;refine yh ?_ ?_;all_goals(first|exact zE hE|exact zE Z|(rw[Z,u7];done))
 have J:ckD m a=0:=by omega
 refine gc (zaO n b (by omega)) ?_;refine gd ?_ ?_<;>intro T
 ·have Q:=zAc J T;obtain⟨hE,Z⟩:=Q;refine gq ?_;refine yh ?_ ?_;all_goals(first|exact zE hE|exact zE Z|(rw[Z,u7];done))
 have E:ckD n b=0:=by omega
 have N:=zAd J E;obtain⟨hE,Z⟩:=N;refine gc (zaZ m a I) ?_;refine yM (zaZ n b H) ?_;iterate 5 refine ya ?_
 apply yG;iterate 2 refine ya ?_
 refine kG 2 ?_;refine gq ?_;refine kQ (zbO (bsV m a) (bsV n b) (by have:=zfv m a;omega)) ?_;refine ge ?_;refine yh ?_ ?_;all_goals(first|exact zE hE|exact zE Z|(rw[Z,u7];done))
end
section
def wq(m:Mn)(z:List Bt)(v:Int):Bool:=decide (¬(wyX m z (hbN v)).length=0)
def hv(m:Mn)(z:List Bt)(n v:Nat):Bool:=decide (v<n)&&wq m z (v:Int)
abbrev hsC(m:Mn)(z:List Bt)(n:Nat):List AV:=[.bool (hv m z n 0),.bool (hv m z n 1),.bool (hv m z n 2),.bool (hv m z n 3),.bool (hv m z n 4),.bool (hv m z n 5),.bool (hv m z n 6),.bool (hv m z n 7)]
def ziy(m:Mn)(z:List Bt)(n:Nat):(hsC m z n).length=8:=rfl
def zfw{m:Mn}{z:List Bt}{n i:Nat}(h:i<8):(hsC m z n)[0*0+(0+(i:Int).toNat*1)]? =some (.bool (decide (i<n)&&wq m z (i:Int))):=by
 have Z:i=0\/i=1\/i=2\/i=3\/i=4\/i=5\/i=6\/i=7:=by omega
 rcases Z with rfl|rfl|rfl|rfl|rfl|rfl|rfl|rfl<;>rfl
theorem zgr{m:Mn}{z:List Bt}{n v:Nat}(h:¬v=n):hv m z n v=hv m z (n+1) v:=by
 grind[hv]
def zCO{m:Mn}{z:List Bt}{n:Nat}(Z:wq m z (n:Int)=true):true=hv m z (n+1) n:=by unfold hv;rw[Z];simp
def zCP{m:Mn}{z:List Bt}{n v:Nat}(Z:wq m z (n:Int)=false):hv m z n v=hv m z (n+1) v:=by
 grind[hv]
def zvw{m:Mn}{z:List Bt}{n:Nat}{v:Bool}(h:n<8)(e:v=hv m z (n+1) n):setAt (hsC m z n) (0*0+(0+(n:Int).toNat*1)) [.bool v]=hsC m z (n+1):=by
 have Z:n=0\/n=1\/n=2\/n=3\/n=4\/n=5\/n=6\/n=7:=by omega
 unfold hsC;rcases Z with rfl|rfl|rfl|rfl|rfl|rfl|rfl|rfl
 ·grind[setAt,hv]
 ·grind[setAt,hv]
 ·grind[setAt,hv]
 ·grind[setAt,hv]
 ·grind[setAt,hv]
 ·grind[zgr,setAt,hv]
 ·rw[←e,←zgr (n:=6) (v:=0) (by decide),←zgr (n:=6) (v:=1) (by decide),←zgr (n:=6) (v:=2) (by decide),←zgr (n:=6) (v:=3) (by decide),←zgr (n:=6) (v:=4) (by decide),←zgr (n:=6) (v:=5) (by decide),←zgr (n:=6) (v:=7) (by decide)];rfl
 ·rw[←e,←zgr (n:=7) (v:=0) (by decide),←zgr (n:=7) (v:=1) (by decide),←zgr (n:=7) (v:=2) (by decide),←zgr (n:=7) (v:=3) (by decide),←zgr (n:=7) (v:=4) (by decide),←zgr (n:=7) (v:=5) (by decide),←zgr (n:=7) (v:=6) (by decide)];rfl
def zty{m:Mn}{z:List Bt}{n:Nat}(h:n<8)(Z:wq m z (n:Int)=true):setAt (hsC m z n) (0*0+(0+(n:Int).toNat*1)) [.bool true]=hsC m z (n+1):=zvw h (zCO Z)
def zxo{m:Mn}{z:List Bt}{n:Nat}(Z:wq m z (n:Int)=false):hsC m z n=hsC m z (n+1):=by
 simp_all[zCP]
def lsK(m:Mn)(z:List Bt)(n:Int)(i:Nat):Bool:=wq m z n&&(List.range i).all λ(j:Nat)=>!(decide (andI (j:Int) n=(j:Int))&&wq m z (j:Int))
def zvx(m:Mn)(z:List Bt)(n:Int):wq m z n=lsK m z n 0:=by unfold lsK;simp
def zoZ(m:Mn)(z:List Bt)(n:Int)(i:Nat):lsK m z n (i+1)=(lsK m z n i&&!(decide (andI (i:Int) n=(i:Int))&&wq m z (i:Int))):=by
 simp[lsK,vF,u7]
def mnF8(m:Mn)(z:List Bt)(n:Nat):List Hb:=((List.range n).filter λ(v:Nat)=>lsK m z (v:Int) v).map λ(v:Nat)=>hbN (v:Int)
def zrA(m:Mn)(z:List Bt)(n:Nat):mnF8 m z (n+1)=mnF8 m z n++(if lsK m z (n:Int) n=true then[hbN (n:Int)]else[]):=by
 grind[mnF8,List.range_succ]
def zhc(m:Mn)(z:List Bt)(n:Nat):(mnF8 m z n).length<=n:=by
 grind[mnF8]
def miV(m:Mn)(z:List Bt):List Hb:=if wcnE m z (hbN 7)=0 then mnF8 m z 8 else[]
attribute [local irreducible] Pur yA yC Ex X Fn Imp LeV LeB FnO It yH FnW FnOW FnP FnD
attribute [local irreducible] mnF8 hbN wcE wcnE wcnV wq hv lsK wyX andI
set_option maxHeartbeats 8000000 in
def zdi(m:Mn)(z:List Bt)(hl:z.length<=4000000000):Fn prog 13 [mnA m,btsA z] (.tup [.sl hbE (miV m z),iv (wcnE m z (hbN 7))]):=by
 have w2:[]=mnF8 m z 0:=by unfold mnF8;rfl
 have v9:[AV.bool false,.bool false,.bool false,.bool false,.bool false,.bool false,.bool false,.bool false]=hsC m z 0:=by unfold hsC;simp[hv]
 refine kC func13 ntmps13 (λg w d=>?_);refine gq ?_;refine yQ [6,7,13,14,15,16,17,18,19] [0,0,0,7,15,31,31,63,255] mo ?_;iterate 2 refine yb ?_
 refine yI (zaL 7) ?_;refine yI (zdL m z (hbN 7) hl) ?_;iterate 5 refine yb ?_
 refine yx ?_;refine gd ?_ ?_<;>intro H
 ·have E:miV m z=[]:=by unfold miV;rw[j3 H]
  apply ye;refine yq ?_;refine kE ?_;refine k8 (yd (ts:=[(4,.sl hbE []),(5,iv (wcnE m z (hbN 7)))]) (hs:=[])) ?_;refine yh ?_ ?_;all_goals simp_all
 have h0:wcnE m z (hbN 7)=0:=by omega
 have E:miV m z=mnF8 m z 8:=by grind[miV]
 have x1:=zha h0;apply yl;apply ye;refine zb ?_;apply yG;refine yi ?_;iterate 2 apply yf
 refine kJ (yE hbE 32 3 9 30 rfl rfl) ?_;refine gq ?_
 refine zcw (ι:=Nat) (λ(n:Nat)=>[(1,btsA z),(2,.ptr 2 0 0 0),(8,.ptr 8 0 0 0),(9,.own 30),(23,iv (n:Int))]) (λ(n:Nat)=>[(2,.box (mnE m) 23),(8,.box (hsC m z n) 94),(30,.row hbE (mnF8 m z n) 32 3)]) (λ(n:Nat)=>n<=8) (λ(n:Nat)=>8-n) 0 (λn hk=>?_) (hJ:=by
  simp) (h0:=by exact yg)
 refine gd ?_ ?_<;>intro v8
 ·have v5:=zhc m z n;have V:=zrA m z n;refine gq ?_;refine yQ [26,27,28,29,30] [0,0,0,4,15] mo ?_;iterate 3 refine yb ?_
  refine yI (zaL (n:Int)) ?_;refine yI (zcI m z (hbN (n:Int))) ?_;refine yx ?_;refine gq ?_;refine bE (sl:=[1,2,8,9,10,23]) (λj=>([btsA z,.ptr 2 0 0 0,.ptr 8 0 0 0,.own 30,.ptr 10 0 0 0,iv (n:Int)],[(2,.box (mnE m) 23),(8,.box (hsC m z n) 94),(10,.box [iv (n:Int)] 3),(30,.row hbE (mnF8 m z n) 32 3)])) (λj=>j=0) 900001 900002 rfl rfl (by decide) (λj zs I=>by obtain⟨i,_,rfl⟩:=zfu I;rfl) ((zb9 m z (hbN (n:Int)) (by omega))) trivial rfl rfl (by decide) (wH _) (by simp) (λj zs I=>by grind[zfu]) (λ_=>rfl) rfl rfl (λl o us=>yg) (rfl) (λj zs I hJ l ready busy rb vs g w hb v4=>?_) (λhJ=>?_)
  ·have Q:wq m z (n:Int)=true:=by
    grind[wq]
   have x0:=zty (m:=m) (z:=z) (n:=n) (by omega) Q;have xT:0*0+(0+(n:Int).toNat*1)<(hsC m z n).length:=by rw[ziy];omega
   have x4:=zfu I;obtain⟨x,hi,rfl⟩:=x4;have Z:=zfw (m:=m) (z:=z) (n:=n+1) (i:=n) (by omega);rw[show decide (n<n+1)=true from jH (by omega),wZ,zvx]at Z;have x3:0*0+(0+(n:Int).toNat*1)<(hsC m z (n+1)).length:=by rw[ziy];omega
   apply yl;refine⟨rfl,rfl,?_⟩;apply kA;apply ye;(iterate 2 refine ya ?_);refine kI (hs:=zar rfl rfl rfl rfl TyK.h xT) ?_;apply kL;apply kK;refine⟨[btsA z,.ptr 2 0 0 0,.ptr 8 0 0 0,.own 30,.ptr 10 0 0 0,iv (n:Int)],[(2,.box (mnE m) 23),(8,.box (hsC m z (n+1)) 94),(10,.box [iv (n:Int)] 3),(30,.row hbE (mnF8 m z n) 32 3)],yg,?_⟩;apply ye;(iterate 2 refine ya ?_);refine ya (hs:=zl rfl rfl Z TyK.h) ?_;refine gq ?_
   refine zcw (ι:=Nat) (λ(i:Nat)=>[(1,btsA z),(2,.ptr 2 0 0 0),(8,.ptr 8 0 0 0),(9,.own 30),(10,.ptr 10 0 0 0),(11,.bool (lsK m z (n:Int) i)),(23,iv (n:Int)),(37,iv (n:Int)),(38,iv (i:Int))]) (λ(i:Nat)=>[(2,.box (mnE m) 23),(8,.box (hsC m z (n+1)) 94),(10,.box [iv (n:Int)] 3),(30,.row hbE (mnF8 m z n) 32 3)]) (λ(i:Nat)=>i<=n) (λ(i:Nat)=>n-i) 0 (λi hk=>?_) (hJ:=by
    simp) (h0:=by exact yg)
   refine gd ?_ ?_<;>intro v3
   ·have T:=zfw (m:=m) (z:=z) (n:=n+1) (i:=i) (by omega);rw[show decide (i<n+1)=true from jH (by omega),wZ]at T;apply yl;apply yf;apply kA;apply ye;(iterate 2 refine ya ?_);apply yG;(iterate 2 refine ya ?_);refine ya (hs:=zjV rfl rfl) ?_;(iterate 2 refine ya ?_);refine kG 5 ?_;refine yn ?_;(iterate 2 refine kF ?_);refine kF (hs:=λx2=>zl rfl rfl T TyK.h) ?_;refine gf ?_ ?_<;>intro v1
    ·have U:false=lsK m z (n:Int) (i+1):=by simp_all[zoZ]
     refine gq ?_;refine yo (i+1) (hI:=yg)
    ·have U:lsK m z (n:Int) i=lsK m z (n:Int) (i+1):=by simp_all[zoZ]
     refine gq ?_;refine yo (i+1) (hI:=yg)
   ·obtain rfl:n=i:=by omega
    refine gd ?_ ?_<;>intro N
    ·rw[j4 N]at V;have U:=V.symm;refine gq ?_;refine yM (zaL (n:Int)) ?_;refine yz hbE [hbN (n:Int)] ?_;refine gq ?_;refine yo (n+1) (hI:=yg)
    ·rw[j3 (by rw[N];decide),w4]at V;have U:=V.symm;refine gq ?_;refine yo (n+1) (hI:=yg)
  have Q:wq m z (n:Int)=false:=by
   simp_all[wq]
  have v0:=zxo (m:=m) (z:=z) Q;have Z:=zfw (m:=m) (z:=z) (n:=n+1) (i:=n) (by omega);rw[show decide (n<n+1)=true from jH (by omega),wZ,zvx]at Z;have x3:0*0+(0+(n:Int).toNat*1)<(hsC m z (n+1)).length:=by rw[ziy];omega
  refine kJ (st':=⟨[(1,btsA z),(2,.ptr 2 0 0 0),(8,.ptr 8 0 0 0),(9,.own 30),(10,.ptr 10 0 0 0),(23,iv (n:Int))],[(2,.box (mnE m) 23),(8,.box (hsC m z (n+1)) 94),(10,.box [iv (n:Int)] 3),(30,.row hbE (mnF8 m z n) 32 3)]⟩) yg ?_;apply ye;iterate 2 refine ya ?_
  refine ya (hs:=zl rfl rfl Z TyK.h) ?_;refine gq ?_
  refine zcw (ι:=Nat) (λ(i:Nat)=>[(1,btsA z),(2,.ptr 2 0 0 0),(8,.ptr 8 0 0 0),(9,.own 30),(10,.ptr 10 0 0 0),(11,.bool (lsK m z (n:Int) i)),(23,iv (n:Int)),(37,iv (n:Int)),(38,iv (i:Int))]) (λ(i:Nat)=>[(2,.box (mnE m) 23),(8,.box (hsC m z (n+1)) 94),(10,.box [iv (n:Int)] 3),(30,.row hbE (mnF8 m z n) 32 3)]) (λ(i:Nat)=>i<=n) (λ(i:Nat)=>n-i) 0 (λi hk=>?_) (hJ:=by
   simp) (h0:=by exact yg)
  refine gd ?_ ?_<;>intro u3
  ·have T:=zfw (m:=m) (z:=z) (n:=n+1) (i:=i) (by omega);rw[show decide (i<n+1)=true from jH (by omega),wZ]at T;apply yl;apply yf;apply kA;apply ye;(iterate 2 refine ya ?_);apply yG;(iterate 2 refine ya ?_);refine ya (hs:=zjV rfl rfl) ?_;(iterate 2 refine ya ?_);refine kG 5 ?_;refine yn ?_;(iterate 2 refine kF ?_);refine kF (hs:=λx2=>zl rfl rfl T TyK.h) ?_;refine gf ?_ ?_<;>intro u2
   ·have U:false=lsK m z (n:Int) (i+1):=by simp_all[zoZ]
    refine gq ?_;refine yo (i+1) (hI:=yg)
   ·have U:lsK m z (n:Int) i=lsK m z (n:Int) (i+1):=by simp_all[zoZ]
    refine gq ?_;refine yo (i+1) (hI:=yg)
  ·obtain rfl:n=i:=by omega
   refine gd ?_ ?_<;>intro J
   ·rw[j4 J]at V;have U:=V.symm;refine gq ?_;refine yM (zaL (n:Int)) ?_;refine yz hbE [hbN (n:Int)] ?_;refine gq ?_;refine yo (n+1) (hI:=yg)
   ·rw[j3 (by rw[J];decide),w4]at V;have U:=V.symm;refine gq ?_;refine yo (n+1) (hI:=yg)
 ·obtain rfl:n=8:=by omega
  apply kK;apply ye;refine yq ?_;refine kE ?_;refine k8 (k9 (k:=30) rfl) ?_;refine yh ?_ ?_;all_goals(first|exact zE E|exact j6 (λy=>AV.sl hbE y) E.symm|exact j6 (AV.int .i64) h0.symm|rfl)
end
end Go.Rse
