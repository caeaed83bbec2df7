/-
  Slices compared with.
-/
import Derived.Test.YtamceaedmdmmlaaGreatDoorZJKit1
set_option linter.all false
set_option maxHeartbeats 8000000
namespace Go.Rse
open Go Go.RowKit Go.Proofs.Tryz
def nlA{α:Type}(enc:α->List AV):Option (List α)->AV
 |none=>.nils
 |some l=>.sl enc l
section
variable{P:Program}{C:Ctx}{st:St}{ty:TypeId}{Q:Exit->St->Prop}
def zlC{T E:TypeId}{w:World}(Z:P.underlying T=some (.slice E))(A:Option Addr)(n c:Nat):(Op.equal T (.slice A n c) (.slice none 0 0)).run P w=.ok A.isNone w:=by
 unfold Op.equal;rw[show Op.maxDepth=9999+1 from rfl];unfold Op.equalIn;cases A<;>simp[run_underlying Z]
def zrB{α:Type}{enc:α->List AV}{o:Option (List α)}{I:Im}{ρ:Nat->Value}{v:Value}(h:RV I ρ (nlA enc o) v)(Z:∀l,o=some l->l≠[]):∃A n c,v=.slice A n c/\A.isNone=!o.isSome:=by
 cases o with
 |none=>exact⟨none,0,0,zdH h,rfl⟩
 |some l=>
  obtain⟨A,b,o,s,c,vs,e,V,-⟩:=zcZ h;exact⟨A,_,c,e,by rw[V (Z l rfl)];rfl⟩
def zyf{α:Type}{enc:α->List AV}{o:Option (List α)}{T E:TypeId}{x:Operand}{yt:TypeId}(V:P.underlying T=some (.slice E))(hx:ev st x=some (nlA enc o))(Z:∀l,o=some l->l≠[]):Pur P C (.binOp .neq T x (.const (.slice none 0 0)) yt) ty st (.bool o.isSome):=λg a w dst pos af gd hr=>by
 obtain⟨A,n,c,e,h⟩:=zrB (yA hr hx) Z;have e0:a.eval (.const (.slice none 0 0))=.slice none 0 0:=rfl;refine⟨.bool o.isSome,?_,.bool _⟩;have U:(eqGuard .neq T x (.const (.slice none 0 0)) (.slice A n c) (.slice none 0 0)).run P w=.ok () w:=by unfold eqGuard;simp
 have h1:=zlC (P:=P) (w:=w) V A n c;simp only[execOp,e,e0,jP,U,jI,binOp,h1,jU,h,Bool.not_not]
def zrC{α:Type}{enc:α->List AV}{o:Option (List α)}{T E:TypeId}{x:Operand}{yt:TypeId}(V:P.underlying T=some (.slice E))(hx:ev st x=some (nlA enc o))(Z:∀l,o=some l->l≠[]):Pur P C (.binOp .eql T x (.const (.slice none 0 0)) yt) ty st (.bool (!o.isSome)):=λg a w dst pos af gd hr=>by
 obtain⟨A,n,c,e,h⟩:=zrB (yA hr hx) Z;have e0:a.eval (.const (.slice none 0 0))=.slice none 0 0:=rfl;refine⟨.bool (!o.isSome),?_,.bool _⟩;have U:(eqGuard .eql T x (.const (.slice none 0 0)) (.slice A n c) (.slice none 0 0)).run P w=.ok () w:=by unfold eqGuard;simp
 have h1:=zlC (P:=P) (w:=w) V A n c;simp only[execOp,e,e0,jP,U,jI,binOp,h1,jU,h]
def zrD{ops:Array Oper}{rest:List Oper}{d:Nat}{pos:String}{af:Array Edge}{α:Type}{enc:α->List AV}{l:List α}{T E:TypeId}{x:Operand}{yt:TypeId}(h:∀b:Bool,(l≠[]->b=false)->Ex P C ops rest ⟨(d,.bool b)::st.t,st.h⟩ Q)
 (V:P.underlying T=some (.slice E))(hx:ev st x=some (.sl enc l):=by exact rfl)(U:dOk C.n (some d)=true:=by exact rfl):
 Ex P C ops ({dst:=some d,op:=.binOp .eql T x (.const (.slice none 0 0)) yt,type:=ty,pos:=pos,after:=af,guard:=none}::rest) st Q:=λg a w hr=>by
 obtain⟨A,b,o,s,c,vs,e,N,-⟩:=zcZ (yA hr hx);have e0:a.eval (.const (.slice none 0 0))=.slice none 0 0:=rfl;have J:(eqGuard .eql T x (.const (.slice none 0 0)) (.slice A l.length c) (.slice none 0 0)).run P w=.ok () w:=by unfold eqGuard;simp
 have h1:=zlC (P:=P) (w:=w) V A l.length c;refine wpListIn_plain rfl λK' H=>zaz ?_
 simp only[wp1,execOp,e,e0,jP,J,jI,binOp,h1,jU,zbL];refine H _ _ ?_;exact h A.isNone (λZ=>by rw[N Z];rfl) _ _ _ (hr.addSt (nb:=none) (d:=some d) (x:=.bool A.isNone) (v:=.bool A.isNone) (Add.refl _ g w) U rfl (.bool _) hr.sat.im hr.sat.ob (λ_ _ h=>by cases h))
end
end Go.Rse
namespace Go.Rse
open Go Go.Proofs Go.Proofs.Tryz
structure PtK(s:ByteArray)(l:List Sg):Prop where
 hs:s.size<=1000000
 hn:nmQ (bsB s)=true
 hl:l.length<=400
 hk:∀x∈l,SgK x/\¬x.Kind=4
def PtK.at{s:ByteArray}{l:List Sg}(h:PtK s l){k:Nat}{x:Sg}(hx:l[k]? =some x):(1<=x.Kind/\x.Kind<=12)/\¬x.Kind=4:=⟨(h.hk x (j8 hx)).1.k,(h.hk x (j8 hx)).2⟩
def zlD{l:List Sg}{j:Nat}{zs:List AV}(h:(scX l)[j]? =some zs):∃s,(scV l)[j]? =some s/\zs=[scA s]:=by
 rw[scX,jN]at h;cases hk:(scV l)[j]? with
 |none=>simp[hk]at h
 |some k=>simp[hk]at h;exact⟨k,rfl,h.symm⟩
def zqe{M M':Mn}{kn:Bool}{F T:Int}{L:List Sc}{b:Ss}(h:b=⟨M,kn,⟨F,T,M'⟩,L⟩):kn=b.kn/\([iv M.Max,iv M.Mod,iv M.Tem,iv M.Pro]:List AV)=mnE b.m/\mnE M=mnE b.m/\([iv F,iv T,iv M'.Max,iv M'.Mod,iv M'.Tem,iv M'.Pro,iv 0,iv 0]:List AV)=scE b.s/\L.length=b.L.length:=by
 subst h;exact⟨rfl,rfl,rfl,rfl,rfl⟩
attribute [local irreducible] Pur yy yz Ex X Fn Imp LeV LeB FnO It yH FnW FnOW FnP FnD
attribute [local irreducible] ufS clS ckM nmQ bsB scS scV scX
def zd7(s:Sg)(h:1<=s.Kind/\s.Kind<=12):Fn prog 123 [sgA s] (iv (clS s.Kind)):=by
 refine kR func123 ntmps123 (λg w d=>?_);refine gc (zlk s.Kind h) ?_;all_goals exact zR
def zbk(l:List Sg)(hl:l.length<=1000000):Fn prog 232 [sgsA l] (sgsA l):=by
 refine kR func232 ntmps232 (λg w d=>?_);apply ye;refine yj ?_;apply yh;apply ye;refine ya ?_;refine zrD (λbn U=>?_) Tryz.underlying35;refine gd ?_ ?_<;>intro Z
 ·have V:l=[]:=by
   cases l with
   |nil=>rfl
   |cons x r=>rw[U (by simp)]at Z;cases Z
  apply ye;refine yj ?_;refine kQ ?_;refine kM (yd (ts:=[(2,sgsA [])]) (hs:=[])) ?_;refine gq ?_;all_goals(first|exact j9 (λz=>sgsA z) V.symm|rfl)
 refine gq ?_;refine yD sgE [] ?_;refine ya ?_;refine kV ?_;refine yj ?_;refine kQ ?_;refine kM (kL (k:=5) rfl) ?_;refine gq ?_;all_goals(first|exact j9 (λz=>sgsA z) V.symm|rfl)
def zhr(s:ByteArray)(l:List Sg)(h:PtK s l):Fn prog 170 [.agg [.str s,sgsA l]] (.tup [.agg [.str s,sgsA l],iv 0]):=by
 have hl:=h.hl;refine kR func170 ntmps170 (λg w d=>?_);refine gc (zgB s l h.hs h.hn h.hl h.hk) ?_;refine gd ?_ ?_<;>intro Z
 ·exact absurd Z (by decide)
 refine gq ?_;refine yW [6,23,24,25,26,27,28] [0,1,0,4,12,31,0,127] mo ?_;iterate 4 refine yb ?_
 refine yO (zbk l (by omega)) ?_;refine yb ?_;refine ChM.step rfl rfl rfl (zp (k:=6) zc46) rfl ?_;refine yI ?_;refine kV ?_;apply yE;refine ya ?_;apply yE;refine yj ?_;apply yh;refine X.label ?_;apply yh;apply kP;refine zm (λk=>[(1,.ptr 1 0 0 0),(2,.ptr 2 0 0 0),(6,.ptr 6 0 0 0),(7,iv 0),(8,iv (k:Int))]) (λk=>[(1,.box [.str s,sgsA l] 46),(2,.box [.str ⟨#[]⟩,.nils] 46),(6,.box [.str s,sgsA l] 46)]) l.length (λk hk=>?_);refine gd ?_ ?_<;>intro J
 ·have V:=@getX _ l k (by omega);obtain⟨x,hx,H⟩:=V;have U:=h.at hx;refine gd ?_ ?_<;>intro T
  ·refine gq ?_;refine yu (k+1) (hI:=yg)
  exact absurd T U.2
 ·refine gd ?_ ?_<;>intro N
  ·exact absurd N (by decide)
  refine gq ?_;refine yx ty46 ?_ ?_;all_goals exact zR
def zf8(s:ByteArray)(l:List Sg):Fn prog 172 [.agg [.str s,sgsA l]] (.fn 234 [.ept (λ_:Unit=>[.str s,sgsA l]) () 0]):=by
 refine kR func172 ntmps172 (λg w d=>?_);apply ye;refine zz ?_;refine ya ?_;apply yE;refine yQ ?_;refine kQ ?_;refine kM (yY (k:=1) rfl rfl) ?_;refine gq ?_;all_goals exact zR
def zeB(s:ByteArray)(l:List Sg)(h:PtK s l)(hok:ScOk l):It prog 234 [.ept (λ_:Unit=>[.str s,sgsA l]) () 0] (scX l):=by
 have hl:=h.hl;have z1:(false:Bool)=(scS l 0).kn:=by unfold scS;rfl
 have z2:(0:Nat)=(scS l 0).L.length:=by unfold scS;rfl
 have z3:([iv 0,iv 0,iv 0,iv 0]:List AV)=mnE (scS l 0).m:=by unfold scS;rfl
 have z4:([iv (-1),iv 0,iv 0,iv 0,iv 0,iv 0,iv 0,iv 0]:List AV)=scE (scS l 0).s:=by unfold scS;rfl
 refine It.intro (ts:=λlY=>[(0,.yv lY),(1,.ept (λ_:Unit=>[.str s,sgsA l]) () 0)]) (n:=72) (by kernel_rfl) func234 rfl ntmps234 rfl (λ_=>rfl) (by simp) (λg w d ds Y lY hY=>?_);apply ye;refine za ?_;apply yE;refine ya ?_;apply yE;refine ya ?_;refine za ?_;refine kV ?_;apply kW;iterate 2 apply yh
 refine kT (st':=⟨[(0,.yv lY),(1,.ept (λ_:Unit=>[.str s,sgsA l]) () 0),(3,.ptr 3 0 0 0),(4,.bool false),(5,.ptr 5 0 0 0)],[(1000000,.yld 0 true),(3,.box [iv 0,iv 0,iv 0,iv 0] 27),(5,.box [iv (-1),iv 0,iv 0,iv 0,iv 0,iv 0,iv 0,iv 0] 140)]⟩) yg ?_;apply yf;refine ya ?_;refine yC ?_;apply kP;refine zm (λk=>[(0,.yv lY),(1,.ept (λ_:Unit=>[.str s,sgsA l]) () 0),(3,.ptr 3 0 0 0),(4,.bool (scS l k).kn),(5,.ptr 5 0 0 0),(10,sgsA l),(11,iv (l.length:Int)),(12,iv (k:Int))]) (λk=>[(1000000,.yld (scS l k).L.length true),(3,.box (mnE (scS l k).m) 27),(5,.box (scE (scS l k).s) 140)]) l.length (λk hk=>?_);refine gd ?_ ?_<;>intro u4
 ·have x1:=@getX _ l k (by omega);obtain⟨x,hx,u3⟩:=x1;have x0:=h.at hx;have E:=hok k x hx;have w9:=zoV l k (by omega);obtain⟨r1,r2,r3,r5,r4⟩:=w9;refine gc (zd7 x x0.1) ?_;refine gd ?_ ?_<;>intro G
  ·have V:=ztU hx G;have w2:=E.1 G;have Z:=zqe V;obtain⟨e1,e2,e5,e3,e4⟩:=Z;refine gd ?_ ?_<;>intro v9
   ·exact absurd w2 (by simp[v9])
   apply yk;refine zF ⟨[(0,.yv lY),(1,.ept (λ_:Unit=>[.str s,sgsA l]) () 0),(3,.ptr 3 0 0 0),(5,.ptr 5 0 0 0),(10,sgsA l),(11,iv (l.length:Int)),(12,iv (k:Int)),(4,.bool (scS l k).kn),(6,iv (k:Int))],[(1000000,.yld (scS l k).L.length true),(3,.box (mnE (scS l k).m) 27),(5,.box ([iv (if(scS l k).s.F<0 then(k:Int)else(scS l k).s.F),iv (scS l k).s.T,iv (scS l k).s.M.Max,iv (scS l k).s.M.Mod,iv (scS l k).s.M.Tem,iv (scS l k).s.M.Pro,iv 0,iv 0]) 140)]⟩ (λU=>?_) ?_
   ·refine gd ?_ ?_<;>intro v8
    ·have hq:([iv (k:Int),iv (scS l k).s.T,iv (scS l k).s.M.Max,iv (scS l k).s.M.Mod,iv (scS l k).s.M.Tem,iv (scS l k).s.M.Pro,iv 0,iv 0]:List AV)=[iv (if(scS l k).s.F<0 then(k:Int)else(scS l k).s.F),iv (scS l k).s.T,iv (scS l k).s.M.Max,iv (scS l k).s.M.Mod,iv (scS l k).s.M.Tem,iv (scS l k).s.M.Pro,iv 0,iv 0]:=by rw[j6 v8]
     apply yf;(iterate 2 refine ya ?_);refine kV ?_;apply kW;exact kT yg U
    ·have hq:(scE (scS l k).s:List AV)=[iv (if(scS l k).s.F<0 then(k:Int)else(scS l k).s.F),iv (scS l k).s.T,iv (scS l k).s.M.Max,iv (scS l k).s.M.Mod,iv (scS l k).s.M.Tem,iv (scS l k).s.M.Pro,iv 0,iv 0]:=by rw[j7 (by omega)];rfl
     apply yk;exact kT yg U
   refine gq ?_;refine yu (k+1) (hI:=yg)
  ·have c1:¬clS x.Kind=1:=G;refine gd ?_ ?_<;>intro xT
   ·have V:=zx3 hx xT;have u2:=E.2 xT;have Z:=zqe V;obtain⟨e1,e2,e5,e3,e4⟩:=Z;refine gd ?_ ?_<;>intro v5
    ·exact absurd v5 (by omega)
    refine gq ?_;refine yu (k+1) (hI:=yg)
   ·refine gd ?_ ?_<;>intro x4
    ·have c3:clS x.Kind=3:=x4;(iterate 2 apply yh);have v4:¬0<=(scS l k).s.F\/0<=(scS l k).s.F:=by omega
     rcases v4 with N|N
     ·have hp:decide (0<=(scS l k).s.F)=false:=jH N;have x3:(decide (0<=(scS l k).s.F)==true)=false:=by rw[hp];rfl
      apply yf;(iterate 4 refine ya ?_);(iterate 4 refine zbQ ?_);refine zo (zg7 rfl hp rfl) rfl ?_;refine gd ?_ ?_<;>intro v3
      ·exact absurd v3 (by decide)
      refine gd ?_ ?_<;>intro x2
      ·have V:=zp6 hx c3 (m':=x.Mens) (kn':=true) (L':=(scS l k).L) (.inl ⟨x2,rfl,rfl⟩) (.inr ⟨N,rfl⟩);have Z:=zqe V;obtain⟨e1,e2,e5,e3,e4⟩:=Z;apply yf;(iterate 2 refine ya ?_);refine kV ?_;refine yj ?_;apply yf;(iterate 2 refine ya ?_);refine kV ?_;apply kW;refine kT (st':=⟨[(0,.yv lY),(1,.ept (λ_:Unit=>[.str s,sgsA l]) () 0),(3,.ptr 3 0 0 0),(5,.ptr 5 0 0 0),(10,sgsA l),(11,iv (l.length:Int)),(12,iv (k:Int)),(4,.bool true)],[(1000000,.yld ((scS l k).L.length) true),(3,.box [iv x.Mens.Max,iv x.Mens.Mod,iv x.Mens.Tem,iv x.Mens.Pro] 27),(5,.box [iv (-1),iv 0,iv x.Mens.Max,iv x.Mens.Mod,iv x.Mens.Tem,iv x.Mens.Pro,iv 0,iv 0] 140)]⟩) yg ?_;refine gq ?_;refine yu (k+1) (hI:=yg)
      ·have V:=zp6 hx c3 (m':=(scS l k).m) (kn':=(scS l k).kn) (L':=(scS l k).L) (.inr ⟨x2,rfl,rfl⟩) (.inr ⟨N,rfl⟩);have Z:=zqe V;obtain⟨e1,e2,e5,e3,e4⟩:=Z;apply yk;apply yf;(iterate 2 refine ya ?_);refine kV ?_;apply kW;refine kT (st':=⟨[(0,.yv lY),(1,.ept (λ_:Unit=>[.str s,sgsA l]) () 0),(3,.ptr 3 0 0 0),(5,.ptr 5 0 0 0),(10,sgsA l),(11,iv (l.length:Int)),(12,iv (k:Int)),(4,.bool (scS l k).kn)],[(1000000,.yld ((scS l k).L.length) true),(3,.box (mnE (scS l k).m) 27),(5,.box [iv (-1),iv 0,iv (scS l k).m.Max,iv (scS l k).m.Mod,iv (scS l k).m.Tem,iv (scS l k).m.Pro,iv 0,iv 0] 140)]⟩) yg ?_;refine gq ?_;refine yu (k+1) (hI:=yg)
     ·have hp:decide (0<=(scS l k).s.F)=true:=jJ N;have x3:(decide (0<=(scS l k).s.F)==true)=true:=by rw[hp];rfl
      have v2:=zEt hx c3 N;apply yf;(iterate 4 refine ya ?_);(iterate 2 refine z8 ?_);refine zb6 hY rfl rfl rfl (λ_=>⟨_,_,rfl,rfl,rfl,bC _,rfl,rfl,v2,λb=>?_⟩) (λh=>absurd (h.symm.trans x3) (by decide));refine z8 ?_;refine gd ?_ ?_<;>intro J
      ·subst J;refine kQ ?_;refine⟨.inr rfl,_,false,rfl,λhb=>by simp at hb⟩
      subst J;refine gd ?_ ?_<;>intro H
      ·have V:=zp6 hx c3 (m':=x.Mens) (kn':=true) (L':=(scS l k).L++[(scS l k).s]) (.inl ⟨H,rfl,rfl⟩) (.inl ⟨N,rfl⟩);have Z:=zqe V;obtain⟨e1,e2,e5,e3,e4⟩:=Z;rw[jC,wW]at e4;apply yf;(iterate 2 refine ya ?_);refine kV ?_;refine yj ?_;apply yf;(iterate 2 refine ya ?_);refine kV ?_;apply kW;refine kT (st':=⟨[(0,.yv lY),(1,.ept (λ_:Unit=>[.str s,sgsA l]) () 0),(3,.ptr 3 0 0 0),(5,.ptr 5 0 0 0),(10,sgsA l),(11,iv (l.length:Int)),(12,iv (k:Int)),(4,.bool true)],[(1000000,.yld ((scS l k).L.length+1) true),(3,.box [iv x.Mens.Max,iv x.Mens.Mod,iv x.Mens.Tem,iv x.Mens.Pro] 27),(5,.box [iv (-1),iv 0,iv x.Mens.Max,iv x.Mens.Mod,iv x.Mens.Tem,iv x.Mens.Pro,iv 0,iv 0] 140)]⟩) yg ?_;refine gq ?_;refine yu (k+1) (hI:=yg)
      ·have V:=zp6 hx c3 (m':=(scS l k).m) (kn':=(scS l k).kn) (L':=(scS l k).L++[(scS l k).s]) (.inr ⟨H,rfl,rfl⟩) (.inl ⟨N,rfl⟩);have Z:=zqe V;obtain⟨e1,e2,e5,e3,e4⟩:=Z;rw[jC,wW]at e4;apply yk;apply yf;(iterate 2 refine ya ?_);refine kV ?_;apply kW;refine kT (st':=⟨[(0,.yv lY),(1,.ept (λ_:Unit=>[.str s,sgsA l]) () 0),(3,.ptr 3 0 0 0),(5,.ptr 5 0 0 0),(10,sgsA l),(11,iv (l.length:Int)),(12,iv (k:Int)),(4,.bool (scS l k).kn)],[(1000000,.yld ((scS l k).L.length+1) true),(3,.box (mnE (scS l k).m) 27),(5,.box [iv (-1),iv 0,iv (scS l k).m.Max,iv (scS l k).m.Mod,iv (scS l k).m.Tem,iv (scS l k).m.Pro,iv 0,iv 0] 140)]⟩) yg ?_;refine gq ?_;refine yu (k+1) (hI:=yg)
    ·have V:=zAL hx c1 (by assumption) x4;have e1:(scS l k).kn=(scS l (k+1)).kn:=by rw[V]
     have e2:mnE (scS l k).m=mnE (scS l (k+1)).m:=by rw[V]
     have e3:scE (scS l k).s=scE (scS l (k+1)).s:=by rw[V]
     have e4:(scS l k).L.length=(scS l (k+1)).L.length:=by rw[V]
     refine gq ?_;refine yu (k+1) (hI:=yg)
 ·have v1:k=l.length:=by omega
  subst v1;refine gd ?_ ?_<;>intro v0
  ·apply yf;(iterate 2 refine ya ?_);refine Ex.yield hY rfl rfl rfl (bC _) rfl rfl (zAK (by omega)) rfl (λb=>?_);apply kW;refine⟨.inl rfl,_,b,rfl,λh=>by rw[h,zrm (by omega)];rfl⟩
  ·apply yk;refine⟨.inl rfl,_,true,rfl,λ_=>(zrn (by omega)).symm⟩
end Go.Rse
namespace Go.Rse
open Go Go.RowKit Go.Proofs.Tryz
def ExS(P:Program)(C:Ctx)(ops:Array Oper)(l:List Nat)(u:FrameMode)(st:St)(Q:FrameMode->Exit->St->Prop):Prop:=∀g a w,Rel C st g a w->∀(c0:Frame)(cs:List Frame),c0.mode=u->wpOpsSIn Fence.wide 0 P ops (zpA C c0 cs Q) l a (c0::cs) w
section
variable{P:Program}{C:Ctx}{st:St}{Q:FrameMode->Exit->St->Prop}{u:FrameMode}{ops:Array Oper}{i:Nat}{l:List Nat}
def ExS.nil(h:Q u .normal st):ExS P C ops [] u st Q:=λg a w hr c0 cs Z=>⟨u,st,g,by rw[←Z],hr,h⟩
def zoW{α:Type}{m:Sem α}{f:α->Next}{w w':World}{n:Next}(h:(m>>=λx=>(pure (f x):Sem Next)).run P w=.ok n w'):∃x,n=f x:=by
 rw[jP]at h;cases hm:m.run P w<;>simp[hm,Result.andThen]at h;exact⟨_,h.1.symm⟩
def OpN(op:Op):Prop:=∀(ρ:Operand->Value)dst ty pos af gd(P:Program)w n w',(execOp ρ {dst:=dst,op:=op,type:=ty,pos:=pos,after:=af,guard:=gd}).run P w=.ok n w'->n=.skip\/∃x,n=.value x
def zkA(T:TypeId):OpN (.alloc T):=λρ dst ty pos af gd P w n w' h=>.inr (zoW h)
def zqf(T:TypeId)(x y:Operand):OpN (.store T x y):=λρ dst ty pos af gd P w n w' h=>.inl (zoW h).choose_spec
def zkB{st':St}{dst:Option Tmp}{op:Op}{ty:TypeId}{pos:String}{af:Array Edge}(h:ExS P C ops l u st' Q)(ho:ops[i]? =some {dst:=dst,op:=op,type:=ty,pos:=pos,after:=af,guard:=none}:=by rfl)(V:OpN op:=by first|exact zkA _|exact zqf _ _ _)(hs:yz P C op ty dst st st':=by first|exact yL (zp ZcK.h) rfl rfl|exact zaV rfl rfl rfl rfl TyK.h rfl (leB rfl)|exact zU rfl rfl rfl rfl TyK.h (ltB rfl)):ExS P C ops (i::l) u st Q:=λg a w hr c0 cs U=>by
 have:=hs g a w pos af none hr (λa' w'=>wpOpsSIn Fence.wide 0 P ops (zpA C c0 cs Q) l a' (c0::cs) w') (λa' w' g' Z=>h g' a' w' Z c0 cs U);unfold wp1 zbL at this;simp only[wpOpsSIn,ho];refine⟨λ_ _=>trivial,?_⟩;simp only[Region.wanted,if_true];have hn:=V a.eval dst ty pos af none P w;revert this hn;generalize(execOp a.eval {dst:=dst,op:=op,type:=ty,pos:=pos,after:=af,guard:=none}).run P w=r;intro h1 T;cases r with
 |ok n w'=>
  rcases T n w' rfl with rfl|⟨x,rfl⟩<;>exact h1
 |_=>exact h1.elim
def ExS.al{d:Nat}{T:TypeId}{ty:TypeId}{pos:String}{af:Array Edge}{cs:List AV}[Z:ZcK P T cs](h:ExS P C ops l u (addSt st (some d) (.ptr d 0 0 0) (some (d,.box cs T))) Q)(ho:ops[i]? =some {dst:=some d,op:=.alloc T,type:=ty,pos:=pos,after:=af,guard:=none}:=by rfl)(V:dOk C.n (some d)=true:=by rfl)(hn:nbOk st (some (d,.box cs T))=true:=by rfl):ExS P C ops (i::l) u st Q:=
 zkB h ho (zkA _) (yL (zp Z.h) V hn)
def znL{d:Nat}{op:Op}{ty:TypeId}{pos:String}{af:Array Edge}{x:AV}(h:ExS P C ops l u ⟨(d,x)::st.t,st.h⟩ Q)(ho:ops[i]? =some {dst:=some d,op:=op,type:=ty,pos:=pos,after:=af,guard:=none}:=by rfl)(hs:Pur P C op ty st x:=by exact yK)(V:d.blt C.n=true:=by rfl):ExS P C ops (i::l) u st Q:=λg a w hr c0 cs U=>by
 obtain⟨v,e,hv⟩:=hs g a w (some d) pos af none hr;have Z:=hr.addSt (d:=some d) (nb:=none) (x:=x) (v:=v) (Add.refl _ g w) V rfl hv hr.sat.im hr.sat.ob (λ_ _ h=>by cases h);simp only[wpOpsSIn,ho];refine⟨λ_ _=>trivial,?_⟩;simp only[Region.wanted,if_true,e];exact h g _ w Z c0 cs U
def zt1{t:Nat}{ts:Array TypeId}{ty:TypeId}{pos:String}{af:Array Edge}(h:ExS P C ops l .returning ⟨(t,.val .nilIface)::st.t,st.h⟩ Q)(ho:ops[i]? =some {dst:=some t,op:=.call {callee:=.builtin .recover,args:= #[],argTypes:=ts},type:=ty,pos:=pos,after:=af,guard:=none}:=by rfl)(ht:t.blt C.n=true:=by rfl):ExS P C ops (i::l) .returning st Q:=λg a w hr c0 cs T=>by
 have V:t<a.tmps.size:=by rw[hr.size];simpa using ht
 have U:Rel C ⟨(t,.val .nilIface)::st.t,st.h⟩ g (a.put (some t) .nilIface) w:=by
  refine⟨by simp[Act.put,hr.size],hr.defers,λt' x Z=>?_,hr.sat,hr.ext⟩;show RV g.I g.ρ x ((a.put (some t) .nilIface).tmps.getD t' undef);rw[zaT V];simp only[yq]at Z;by_cases e:t=t'
  ·subst e;simp at Z;subst Z;rw[j6 rfl];exact .val _
  ·rw[j7 e];have:t.beq t'=false:=beqF.2 e;simp[this]at Z;exact hr.tmps t' x Z
 have e1:(execOp a.eval {dst:=some t,op:=.call {callee:=.builtin .recover,args:= #[],argTypes:=ts},type:=ty,pos:=pos,after:=af,guard:=none}).run P w=.ok .recover w:=by
  simp[execOp,resolve,invoke,builtin]
 have e3:recoverD (c0::cs)=none:=by simp[recoverD,T]
 simp only[wpOpsSIn,ho];refine⟨λ_ _=>trivial,?_⟩;simp only[Region.wanted,if_true,e1,e3];exact h g _ w U c0 cs T
def XS.region{id:Nat}(h:ExS P C ops (List.range ops.size) u st Q):XS P C (.region id ops false) u st Q:=λg a w hr c0 cs Z=>wpSIn_region (h g a w hr c0 cs Z)
def zjZ{t xT ty:TypeId}{x:Operand}{zs:Array Value}{ys:List AV}(hx:ev st x=some (.val .nilIface))(V:∃fs,P.underlying t=some (.struct fs))(T:(P.info? t).bind (·.zero)=some (.agg zs))(Z:cvL zs.toList=some ys):Pur P C (.typeAssert x xT t true) ty st (.tup [.agg ys,.bool false]):=λg a w dst pos af gd hr=>by
 have e:=zbg (yA hr hx);obtain⟨fs,V⟩:=V;obtain⟨h1,U⟩:=zgi (I:=g.I) (ρ:=g.ρ) Z;refine⟨.tuple #[.agg zs,.bool false],?_,?_⟩
 ·cases hi:P.info? t<;>simp_all[execOp,Instr.typeAssert,run_underlying V,zeroValue,typeInfo]
 ·exact RV.tup [.agg ys,.bool false] [.agg zs,.bool false] rfl λj c v Z hv=>by
   match j with
   |0=>
    simp at Z hv;subst Z;subst hv;exact RV.agg ys zs.toList (by simpa using h1) U
   |1=>simp at Z hv;subst Z;subst hv;exact .bool _
   |j+2=>simp at Z
end
end Go.Rse
namespace Go.Rse
open Go Go.Proofs Go.Proofs.Tryz
def rcK(l:List Sg)(F:Nat):Nat->List Sg×List Int
 |0=>([],[])
 |n+1=>match l[F+n]? with
  |some x=>if clS x.Kind=1\/clS x.Kind=2 then((rcK l F n).1++[x],(rcK l F n).2++[((F+n:Nat):Int)])else rcK l F n
  |none=>rcK l F n
def rcV(l:List Sg)(s:Sc):List Sg:=(rcK l s.F.toNat (s.T-s.F).toNat).1
def rcI(l:List Sg)(s:Sc):List Int:=(rcK l s.F.toNat (s.T-s.F).toNat).2
def zlE(l:List Sg)(F:Nat):∀n,(rcK l F n).1.length<=n/\(rcK l F n).2.length<=n
 |0=>⟨jE _,jE _⟩
 |n+1=>by
  have:=zlE l F n;rw[rcK];split
  ·split
   ·simp only[jC,wW];omega
   ·omega
  ·omega
def zwt{l:List Sg}{F n:Nat}{x:Sg}(h:l[F+n]? =some x)(c:clS x.Kind=1\/clS x.Kind=2):(rcK l F n).1++[x]=(rcK l F (n+1)).1/\(rcK l F n).2++[((F+n:Nat):Int)]=(rcK l F (n+1)).2:=by
 rw[rcK,h];dsimp only;rw[j6 c];exact⟨rfl,rfl⟩
def zAT{l:List Sg}{F n:Nat}{x:Sg}(h:l[F+n]? =some x)(c:¬(clS x.Kind=1\/clS x.Kind=2)):(rcK l F n).1=(rcK l F (n+1)).1/\(rcK l F n).2=(rcK l F (n+1)).2:=by
 rw[rcK,h];dsimp only;rw[j7 c];exact⟨rfl,rfl⟩
def ziW{α:Type}{l:List α}{j:Nat}{x:α}(h:l[j]? =some x):l.take j++[x]=l.take (j+1):=by rw[jG,h];rfl
attribute [local irreducible] Pur yy yz Ex X Fn Imp LeV LeB FnO It yH FnW FnOW FnP FnD ExS XS
attribute [local irreducible] ufS clS ckM nmQ bsB scS scV scX rcK
def zf9(s:ByteArray)(l:List Sg)(V:List Sc):FnD prog 171 [.ptr 2000002 0 0 0,.ptr 2000003 0 0 0,.ptr 2000004 0 0 0] [(2000002,.box [.str s,sgsA l] 46),(2000003,.box [scsA V] 136),(2000004,.box [iv 0] 31)] [2000002,2000003,2000004] (.returning) (.returning) [(2000002,.box [.str s,sgsA l] 46),(2000003,.box [scsA V] 136),(2000004,.box [iv 0] 31)]:=by
 refine FnD.intro (ts:=[(0,.ptr 2000002 0 0 0),(1,.ptr 2000003 0 0 0),(2,.ptr 2000004 0 0 0)]) (n:=15) (cs:=[.ptr 2000002 0 0 0,.ptr 2000003 0 0 0,.ptr 2000004 0 0 0]) (by kernel_rfl) func171 rfl ntmps171 rfl (by simp) rfl (by simp) rfl rfl rfl (λg w d vs=>?_);refine XS.seq ?_;refine XS.region ?_;refine zt1 ?_;refine znL (hs:=by exact zjZ (zs:= #[.int .i64 0,.int .i64 0]) rfl ⟨_,Tryz.underlying235⟩ (by kernel_rfl) rfl) ?_;iterate 3 refine znL ?_
 refine ExS.al ?_;refine zkB ?_;refine znL ?_;refine ExS.nil ?_;refine XS.of ?_;refine gd ?_ ?_<;>intro Z
 ·cases Z
 apply yk;exact⟨rfl,.inl rfl,[],[],yd⟩
def zeC(s:ByteArray)(z:List Sg)(U:PtK s z)(hok:ScOk z):Fn prog 122 [.agg [.str s,sgsA z]] (.tup [.agg [.str s,sgsA z],scsA (scV z),iv 0]):=by
 have hl:=U.hl;have H:=zlt z;refine zkN (ts:=[(0,.agg [.str s,sgsA z])]) (n:=25) (by kernel_rfl) func122 rfl ntmps122 rfl rfl (by simp) (λg w d=>?_);refine XW.seq ?_;apply yf;refine zz ?_;iterate 3 refine za ?_
 apply kW;refine XW.seq ?_;refine gq ?_;refine yR (zhr s z U) ?_;iterate 3 refine ya ?_
 iterate 2 refine kV ?_
 apply kW;refine XW.seq ?_;refine gd ?_ ?_<;>intro T
 ·exact absurd T (by decide)
 apply yk;refine XW.defer 20 (λus=>?_);refine XW.of ?_;iterate 2 apply yh
 refine kT (zbo scE 140 8 3 40 136 rfl rfl) ?_;refine gq ?_;refine yR (zf8 s z) ?_;apply kW;apply kP;have G:[]=(scV z).take 0:=by simp
 have N:(scV z).take (scX z).length=scV z:=by unfold scX;rw[jS,jK]
 refine X.range (sl:=[2,3,4]) (λj=>([.ptr 2 0 0 0,.ptr 3 0 0 0,.ptr 4 0 0 0],[(20,.hold us.toList [.ptr 2 0 0 0,.ptr 3 0 0 0,.ptr 4 0 0 0]),(2,.box [.str s,sgsA z] 46),(3,.box [.own 40] 136),(4,.box [iv 0] 31),(40,.row scE ((scV z).take j) 140 8)])) (λj=>True) 900001 900002 rfl rfl (by decide) (λj zs Z=>by obtain⟨i,_,rfl⟩:=zlD Z;rfl) (zeB s z U hok) trivial rfl rfl (by decide) (wK _) (by simp) (λj zs Z=>by obtain⟨i,_,rfl⟩:=zlD Z;rfl) (λ_=>rfl) rfl rfl (λl o us=>yd) (trivial) (λj zs Z hJ l ready busy rb vs g w hb E=>?_) (λhJ=>?_)
 ·have J:=zlD Z;obtain⟨i,hi,rfl⟩:=J;have xT:=ziW hi;have x4:((scV z).take j).length<=1000:=by rw[jO];omega
  apply yf;refine za ?_;refine kV ?_;apply kW;refine⟨rfl,rfl,?_⟩;refine gq ?_;refine yD scE [i] ?_;iterate 2 refine kV ?_
  apply kW;refine⟨[.ptr 2 0 0 0,.ptr 3 0 0 0,.ptr 4 0 0 0],[(20,.hold us.toList [.ptr 2 0 0 0,.ptr 3 0 0 0,.ptr 4 0 0 0]),(2,.box [.str s,sgsA z] 46),(3,.box [.own 40] 136),(4,.box [iv 0] 31),(40,.row scE ((scV z).take (j+1)) 140 8)],yd,rfl,trivial⟩
 rw[N];apply yh;refine kT (st':=⟨[(2,.ptr 2 0 0 0),(3,.ptr 3 0 0 0),(4,.ptr 4 0 0 0)],[(20,.hold us.toList [.ptr 2 0 0 0,.ptr 3 0 0 0,.ptr 4 0 0 0]),(2,.box [.str s,sgsA z] 46),(3,.box [scsA (scV z)] 136),(4,.box [iv 0] 31)]⟩) ((kL (k:=40) rfl).trans yd) ?_;refine bI [⟨0,23,.agg [.str s,sgsA z],[]⟩,⟨1,24,scsA (scV z),[]⟩] [(2,[0]),(3,[0,2,1]),(4,[2,1,0,3])] (λj=>match j with|0=>⟨[(2,.ptr 2 0 0 0),(3,.ptr 3 0 0 0),(4,.ptr 4 0 0 0)],[(20,.hold us.toList [.ptr 2 0 0 0,.ptr 3 0 0 0,.ptr 4 0 0 0]),(2,.box [.str s,sgsA z] 46),(3,.box [scsA (scV z)] 136),(4,.box [iv 0] 31)]⟩|1=>⟨[(2,.ptr 2 0 0 0),(3,.ptr 3 0 0 0),(4,.ptr 4 0 0 0)],[(20,.hold us.toList [.ptr 2 0 0 0,.ptr 3 0 0 0,.ptr 4 0 0 0]),(2,.box [.str s,sgsA z] 46),(3,.box [scsA (scV z)] 136),(4,.box [iv 0] 31)]⟩|2=>⟨[(2,.ptr 2 0 0 0),(3,.ptr 3 0 0 0),(4,.ptr 4 0 0 0)],[(20,.hold us.toList [.ptr 2 0 0 0,.ptr 3 0 0 0,.ptr 4 0 0 0]),(2,.box [.str s,sgsA z] 46),(3,.box [scsA (scV z)] 136),(4,.box [iv 0] 31)]⟩|_=>⟨[(2,.ptr 2 0 0 0),(3,.ptr 3 0 0 0),(4,.ptr 4 0 0 0)],[(20,.hold us.toList [.ptr 2 0 0 0,.ptr 3 0 0 0,.ptr 4 0 0 0]),(2,.box [.str s,sgsA z] 46),(3,.box [scsA (scV z)] 136),(4,.box [iv 0] 31)]⟩) mo (by kernel_rfl) (zj (yd)) (λj Z=>?_) (λj c V β hβ=>?_) ?_
 ·rcases j with _|_|_|_|j
  ·exact yF
  ·exact yF
  ·exact yF
  ·exact yF
  ·exact absurd (show j+4<=3 from Z) (by omega)
 ·rcases j with _|_|_|j
  ·obtain rfl:(2,[0])=c:=by injection V
   refine yp rfl (yn (st0:=⟨[(23,.agg [.str s,sgsA z]),(24,.ifb (β 1) (scsA (scV z))),(2,.ptr 2 0 0 0),(3,.ptr 3 0 0 0),(4,.ptr 4 0 0 0)],[(20,.hold us.toList [.ptr 2 0 0 0,.ptr 3 0 0 0,.ptr 4 0 0 0]),(2,.box [.str s,sgsA z] 46),(3,.box [scsA (scV z)] 136),(4,.box [iv 0] 31)]⟩) (ym) ?_);refine yz.imp (zaV rfl rfl rfl rfl TyK.h rfl (leB rfl)) (ym)
  ·obtain rfl:(3,[0,2,1])=c:=by injection V
   refine yp rfl (yn (st0:=⟨[(23,.agg [.str s,sgsA z]),(24,scsA (scV z)),(2,.ptr 2 0 0 0),(3,.ptr 3 0 0 0),(4,.ptr 4 0 0 0)],[(20,.hold us.toList [.ptr 2 0 0 0,.ptr 3 0 0 0,.ptr 4 0 0 0]),(2,.box [.str s,sgsA z] 46),(3,.box [scsA (scV z)] 136),(4,.box [iv 0] 31)]⟩) (ym) ?_);refine yz.imp (zU rfl rfl rfl rfl TyK.h (by simp)) (ym)
  ·obtain rfl:(4,[2,1,0,3])=c:=by injection V
   refine yp rfl (yn (st0:=⟨[(23,.agg [.str s,sgsA z]),(24,scsA (scV z)),(2,.ptr 2 0 0 0),(3,.ptr 3 0 0 0),(4,.ptr 4 0 0 0)],[(20,.hold us.toList [.ptr 2 0 0 0,.ptr 3 0 0 0,.ptr 4 0 0 0]),(2,.box [.str s,sgsA z] 46),(3,.box [scsA (scV z)] 136),(4,.box [iv 0] 31)]⟩) (ym) ?_);refine yz.imp (zU rfl rfl rfl rfl TyK.h (by simp)) (ym)
  ·exact absurd V (by simp)
 refine kQ ?_;refine zdu (kD:=20) (rv:=[.cell 2 46,.cell 3 136,.cell 4 31]) [(2000002,2),(2000003,3),(2000004,4)] (zf9 s z (scV z)) (.inl ⟨rfl,rfl⟩) rfl rfl Imp.refl rfl (bC _) (.many (by decide) (.cons (.cellA rfl rfl rfl rfl TyK.h (kX _)) (.cons (.cellS rfl rfl rfl TyK.h (kX _)) (.cons (.cellS rfl rfl rfl TyK.h (kX _)) .nil)))) rfl rfl rfl (by repeat'(first|exact True.intro|refine And.intro ⟨_,_,rfl,rfl,bD _,rfl⟩ ?_)) rfl rfl rfl
def zcQ(s:ByteArray)(l:List Sg)(h:PtK s l)(hok:ScOk l):Fn prog 72 [.agg [.str s,sgsA l]] (.tup [scsA (scV l),iv 0]):=by
 refine kR func72 ntmps72 (λg w d=>?_);refine gc (zeC s l h hok) ?_;refine yl ?_ ?_;all_goals exact zR
def zj0(s:ByteArray)(l:List Sg)(h:PtK s l)(hok:ScOk l)(k:Nat)(c:Sc)(hk:(scV l)[k]? =some c):Fn prog 73 [.agg [.str s,sgsA l],iv (k:Int)] (.tup [sgsA (rcV l c),yc (rcI l c),iv 0]):=by
 have hl:=h.hl;have H:=zro l c (j8 hk);have x0:=H.f;have w9:=H.t;have w2:=H.n;have v9:=(j5.1 hk).1;have v8:(scV l)[(k:Int).toNat]? =some c:=by simpa using hk
 obtain⟨f,hf⟩:∃f:Nat,c.F=(f:Int):=⟨c.F.toNat,by omega⟩;obtain⟨N,hN⟩:∃N:Nat,c.T=(f:Int)+(N:Int):=⟨(c.T-c.F).toNat,by omega⟩;have Z:rcV l c=(rcK l f N).1:=by unfold rcV;rw[show c.F.toNat=f by omega,show(c.T-c.F).toNat=N by omega]
 have V:rcI l c=(rcK l f N).2:=by unfold rcI;rw[show c.F.toNat=f by omega,show(c.T-c.F).toNat=N by omega]
 have z1:[]=(rcK l f 0).1:=by unfold rcK;rfl
 have z2:[]=(rcK l f 0).2:=by unfold rcK;rfl
 refine kR func73 ntmps73 (λg w d=>?_);refine gc (zeC s l h hok) ?_;refine gd ?_ ?_<;>intro G
 ·exact absurd G (by decide)
 apply yk;apply yh;apply ye;iterate 2 refine ya ?_
 refine kU 2 ?_;refine yo ?_;iterate 4 refine kS ?_
 refine gf ?_ ?_<;>intro E
 ·exact absurd E (by omega)
 apply yk;apply ye;refine ya ?_;apply yE;refine yj ?_;iterate 2 apply yh
 refine kT ((yG sgE 76 17 10 30 rfl rfl).trans (yG intE 3 1 11 31 rfl rfl)) ?_;apply yf;iterate 5 refine ya ?_
 refine yj ?_;apply kP;refine zm (λn=>[(1,iv (k:Int)),(7,.ptr 7 0 0 0),(8,scsA (scV l)),(10,.own 30),(11,.own 31),(12,iv ((f+n:Nat):Int))]) (λn=>[(7,.box [.str s,sgsA l] 46),(30,.row sgE (rcK l f n).1 76 17),(31,.row intE (rcK l f n).2 3 1)]) N (λn hk=>?_);refine gd ?_ ?_<;>intro v5
 ·obtain⟨x,hx⟩:∃x,l[f+n]? =some x:=⟨_,lgg (by omega)⟩;have v4:l[((f+n:Nat):Int).toNat]? =some x:=by rw[wN];exact hx
  have xT:=h.at hx;have x4:=zlE l f n;obtain⟨q1,q2⟩:=x4;refine gq ?_;refine yR (zd7 x xT.1) ?_;refine ya ?_;apply yE;iterate 2 refine ya ?_
  refine kU 2 ?_;refine yo ?_;iterate 2 refine kS ?_
  refine gf ?_ ?_<;>intro x3
  ·have x2:=zwt hx x3;obtain⟨U,J⟩:=x2;refine gq ?_;refine yD sgE [x] ?_;refine gq ?_;refine yD intE [((f+n:Nat):Int)] ?_;refine gq ?_;refine yu (n+1) (hI:=yg)
  ·have x1:=zAT hx (by omega);obtain⟨U,J⟩:=x1;refine gq ?_;refine yu (n+1) (hI:=yg)
 ·obtain rfl:n=N:=by omega
  apply bA;apply ye;iterate 2 refine ya ?_
  refine yC ?_;refine kQ ?_;refine kM ((kL (k:=30) rfl).trans (kL (k:=31) rfl)) ?_;refine kY (.many (by decide) (.cons (.tmp rfl (kO ?_)) (.cons (.tmp rfl (kO ?_)) (.cons (.tmp rfl (kO ?_)) .nil))));all_goals(first|(rw[Z,V];rfl)|exact zE Z|exact zE V|rfl)
end Go.Rse
